/- That Go functions compute their models. Printed by gen.py. -/
import Derived.Test.YthkiglifgbamiaaRows
import Derived.Test.YthkiglifgbamiaaWalk
import Derived.Test.YthkiglifgbamiaaM
set_option linter.unusedVariables false
namespace Go.Proofs.Ythkiglifgbamiaa
attribute [local irreducible] wpList wpQuiet Code.wp
def rRecord : Rp Record := ((rPair (rInt .u32) (rInt .u32))).iso fun x => (x.Seq, x.Val)
theorem rRecord_open {T : Nat → Prop} {w : World} {cs : List Value} {x : Record} (h : rRecord.rp T w cs x) : cs = [.int .u32 x.Seq, .int .u32 x.Val] := by
  obtain ⟨q1, y1, rfl, f1, g1⟩ := h
  cases f1
  cases g1
  exact rfl
theorem rRecord_mk {T : Nat → Prop} {w : World} {x : Record}   : rRecord.rp T w [.int .u32 x.Seq, .int .u32 x.Val] x := ⟨_, _, rfl, rfl, rfl⟩
def rReplay : Rp Replay := ((rPair (rSl rRecord) (rPair (rInt .i64) (rPair (rInt .i64) (rInt .u32))))).iso fun x => (x.L, x.From, x.To, x.Val)
theorem rReplay_open {T : Nat → Prop} {w : World} {cs : List Value} {x : Replay} (h : rReplay.rp T w cs x) : ∃ (a0 : Option Addr) (c0 : Nat), cs = [.slice a0 (List.length x.L) c0, .int .i64 x.From, .int .i64 x.To, .int .u32 x.Val] ∧ SlR rRecord T w (.slice a0 (List.length x.L) c0) x.L := by
  obtain ⟨q1, y1, rfl, f1, g1⟩ := h
  obtain ⟨v2, rfl, s2⟩ := f1
  obtain ⟨b2, k2, rfl⟩ := s2.shape
  obtain ⟨q3, y3, rfl, f3, g3⟩ := g1
  cases f3
  obtain ⟨q4, y4, rfl, f4, g4⟩ := g3
  cases f4
  cases g4
  exact ⟨b2, k2, rfl, s2⟩
theorem rReplay_mk {T : Nat → Prop} {w : World} {x : Replay} {a0 : Option Addr} {c0 : Nat} (e0 : SlR rRecord T w (.slice a0 (List.length x.L) c0) x.L) : rReplay.rp T w [.slice a0 (List.length x.L) c0, .int .i64 x.From, .int .i64 x.To, .int .u32 x.Val] x := ⟨_, _, rfl, ⟨_, rfl, e0⟩, ⟨_, _, rfl, rfl, ⟨_, _, rfl, rfl, rfl⟩⟩⟩
theorem cf7 : CallOk Try.prog 7 := ⟨⟨_, Try.func7, by kernel_rfl, by kernel_rfl⟩⟩
theorem cf8 : CallOk Try.prog 8 := ⟨⟨_, Try.func8, by kernel_rfl, by kernel_rfl⟩⟩
theorem cf9 : CallOk Try.prog 9 := ⟨⟨_, Try.func9, by kernel_rfl, by kernel_rfl⟩⟩
theorem cf10 : CallOk Try.prog 10 := ⟨⟨_, Try.func10, by kernel_rfl, by kernel_rfl⟩⟩
theorem cf11 : CallOk Try.prog 11 := ⟨⟨_, Try.func11, by kernel_rfl, by kernel_rfl⟩⟩
theorem cf12 : CallOk Try.prog 12 := ⟨⟨_, Try.func12, by kernel_rfl, by kernel_rfl⟩⟩
theorem cf13 : CallOk Try.prog 13 := ⟨⟨_, Try.func13, by kernel_rfl, by kernel_rfl⟩⟩
theorem cf14 : CallOk Try.prog 14 := ⟨⟨_, Try.func14, by kernel_rfl, by kernel_rfl⟩⟩
theorem cf15 : CallOk Try.prog 15 := ⟨⟨_, Try.func15, by kernel_rfl, by kernel_rfl⟩⟩
theorem cf16 : CallOk Try.prog 16 := ⟨⟨_, Try.func16, by kernel_rfl, by kernel_rfl⟩⟩
theorem cf17 : CallOk Try.prog 17 := ⟨⟨_, Try.func17, by kernel_rfl, by kernel_rfl⟩⟩
theorem cf18 : CallOk Try.prog 18 := ⟨⟨_, Try.func18, by kernel_rfl, by kernel_rfl⟩⟩
theorem el33 : ElemOk Try.prog 33 1 := ⟨by kernel_rfl, by decide⟩
theorem el35 : ElemOk Try.prog 35 2 := ⟨by kernel_rfl, by decide⟩
theorem el38 : ElemOk Try.prog 38 2 := ⟨by kernel_rfl, by decide⟩
theorem ne_35 (a0 : Int) (a1 : Int) (b0 : Int) (b1 : Int) : ∀ x y w, (do eqGuard .neq 35 x y (.agg #[.int .u32 a0, .int .u32 a1]) (.agg #[.int .u32 b0, .int .u32 b1]); binOp .neq 35 (.agg #[.int .u32 a0, .int .u32 a1]) (.agg #[.int .u32 b0, .int .u32 b1]) : Sem Value).run Try.prog w = .ok (.bool (!((a0 == b0) && (a1 == b1)))) w := by
  intro x y w
  simp [go_sem]
  repeat' split
  all_goals simp_all
theorem ne_38 (a0 : Int) (a1 : Int) (b0 : Int) (b1 : Int) : ∀ x y w, (do eqGuard .neq 38 x y (.agg #[.int .u32 a0, .int .u32 a1]) (.agg #[.int .u32 b0, .int .u32 b1]); binOp .neq 38 (.agg #[.int .u32 a0, .int .u32 a1]) (.agg #[.int .u32 b0, .int .u32 b1]) : Sem Value).run Try.prog w = .ok (.bool (!((a0 == b0) && (a1 == b1)))) w := by
  intro x y w
  simp [go_sem]
  repeat' split
  all_goals simp_all
theorem mix : Try.prog.follows .mixedOrders = true := by kernel_rfl

set_option maxRecDepth 100000 in
set_option maxHeartbeats 1000000 in
theorem ref04_ahead_sim {T0 : Nat → Prop} {w0 : World} {p0 : List Record} {a1 : Option Addr} {c1 : Nat} {p1 : Int} {r : Int} (hT : Bd T0 w0) (h1 : SlR rRecord T0 w0 (.slice a1 (List.length p0) c1) p0) (hm : ref04_ahead p0 p1 = some r) :
    Calls Try.prog 18 #[.slice a1 (List.length p0) c1, .int .i64 p1] w0 (Ret noB T0 w0 fun _ _ v => v = .int .i64 r) := by
  refine enter (args := [.slice a1 (List.length p0) c1, .int .i64 p1]) Try.func18 rfl Try.ntmps18 rfl fun J => ?_
  have hI0 := Inn.refl (B := w0.heap.size) (M := noB) hT (Nat.le_refl _)
  unfold ref04_ahead at hm
  refine sq2 ?_
  refine rg (zi rfl (nil (t_then ?_)))
  refine sq2 ?_
  refine sq2 ?_
  refine rg (zi rfl (nil (t_then ?_)))
  obtain ⟨o1, ho1, hq1⟩ := bindS hm
  obtain ⟨bd1, hbd1, ho1⟩ := loop_open ho1
  refine blk (wp_loop_ghost (fun m a w1 => ∃ (J : Nat → Value) (T1 : Nat → Prop) (x1 : Int), a = env 23 J [(0, .slice a1 (List.length p0) c1), (1, .int .i64 p1), (5, .int .i64 x1)] ∧ Inn w0.heap.size noB T0 w0 T1 w1 ∧ loopM bd1 m x1 = some o1) NN ⟨_, _, _, env_has ⟨rfl, rfl, rfl, trivial⟩, Inn.refl hI0.lt hI0.le, ho1⟩ ?_)
  rintro m _ w1 ⟨J, T1, x1, rfl, hI1, ho1⟩
  have h1 := h1.mono hI1.imm
  obtain ⟨m1, z1, rfl, hm, hn1⟩ := loop_round ho1
  rw [hbd1] at hm
  refine sq2 ?_
  refine sq2 ?_
  refine rg (mi rfl (mi rfl (ib rfl rfl rfl (nil (t_then ?_)))))
  refine cnd rfl (fun hb1 => ?_) (fun hb1 => ?_)
  · have hm := ctrue hb1 hm
    refine skp (t_then ?_)
    refine sq2 ?_
    refine blk ?_
    refine sq2 ?_
    obtain ⟨u1, hx1, hm⟩ := bindS hm
    refine rq mix (by kernel_rfl) hI1.lt (qms rfl (qmi rfl (qixR rfl rfl h1 hx1 Try.underlying24 Try.sizeOf35 rfl fun b1 of1 cs1 hr1 hc1 => ?_)))
    cases rRecord_open hr1
    obtain ⟨u2, hx2, hm⟩ := bindS hm
    refine qfa rfl Try.underlying35 rfl Try.sizeOf33 rfl (qld rfl Try.isAgg33 (hc1.get (j := 0) rfl) (qms rfl (qmi rfl (qixR rfl rfl h1 hx2 Try.underlying24 Try.sizeOf35 rfl fun b2 of2 cs2 hr2 hc2 => ?_))))
    cases rRecord_open hr2
    refine qfa rfl Try.underlying35 rfl Try.sizeOf33 rfl (qld rfl Try.isAgg33 (hc2.get (j := 0) rfl) (qib rfl rfl rfl (qn fun w2 T2 i2 => ?_)))
    have hI1 := hI1.call i2 (fun _ h => h.elim)
    have h1 := h1.mono i2.imm
    refine t_thenR [(0, .slice a1 (List.length p0) c1), (1, .int .i64 p1), (5, .int .i64 x1), (21, .bool (u1.Seq == u2.Seq))] ⟨rfl, rfl, rfl, rfl, trivial⟩ fun J => ?_
    refine cnd rfl (fun hb2 => ?_) (fun hb2 => ?_)
    · have hm := ctrue hb2 hm
      refine sq2 ?_
      refine rg (mi rfl (zi rfl (nil (t_thenR [(4, .int .i64 x1)] ⟨rfl, trivial⟩ fun J => ?_))))
      have hIr := hI0.trans hI1
      cases hm
      have hn1 : _ = Lp.ret _ := hn1
      subst hn1
      have hm := thn_ret hq1
      cases hm
      exact rtn (r_blk (r_then (r_then (r_blk (r_then (ret1 rfl rfl ⟨_, rfl, _, hIr, rfl⟩))))))
    · have hm := cfalse hb2 hm
      refine skp (t_blk (t_then ?_))
      cases hm
      exact rg (mi rfl (ib rfl rfl rfl (zi rfl (nil (t_then ⟨m1, Nat.lt_succ_self _, _, _, _, env_has ⟨rfl, rfl, rfl, trivial⟩, hI1, hn1⟩)))))
  · have hm := cfalse hb1 hm
    cases hm
    have hn1 : _ = Lp.brk _ := hn1
    subst hn1
    have hm := thn_brk hq1
    have hI0 := hI0.trans hI1
    refine xt (x_then (x_then (x_eq (t_thenR [] trivial fun J => ?_))))
    refine sq2 ?_
    refine rg (zi rfl (nil (t_then ?_)))
    cases hm
    exact rtn (ret1 rfl rfl ⟨_, rfl, _, hI0, rfl⟩)

set_option maxRecDepth 100000 in
set_option maxHeartbeats 1000000 in
theorem law04_Ref_sim {T0 : Nat → Prop} {w0 : World} {p0 : List Record} {a1 : Option Addr} {c1 : Nat} {r : (List Record)} (hT : Bd T0 w0) (h1 : SlR rRecord T0 w0 (.slice a1 (List.length p0) c1) p0) (hm : law04_Ref p0 = some r) :
    Calls Try.prog 8 #[.slice a1 (List.length p0) c1] w0 (Ret noB T0 w0 fun T w v => SlR rRecord T w v r) := by
  refine enter (args := [.slice a1 (List.length p0) c1]) Try.func8 rfl Try.ntmps8 rfl fun J => ?_
  have hI0 := Inn.refl (B := w0.heap.size) (M := noB) hT (Nat.le_refl _)
  unfold law04_Ref at hm
  refine sq2 ?_
  refine rg (zs rfl (nil (t_then ?_)))
  refine sq2 ?_
  refine rg (zs rfl (nil (t_then ?_)))
  refine sq2 ?_
  refine sq2 ?_
  refine rg (zi rfl (nil (t_then ?_)))
  obtain ⟨o1, ho1, hq1⟩ := bindS hm
  obtain ⟨bd1, hbd1, ho1⟩ := loop_open ho1
  have ow2 : OwS rRecord 35 w0.heap.size T0 w0 (.slice none 0 0) [] := OwS.nil
  refine blk (wp_loop_ghost (fun m a w1 => ∃ (J : Nat → Value) (T1 : Nat → Prop) (x1 : List Record) (v1 : Value) (x2 : Int), a = env 19 J [(0, .slice a1 (List.length p0) c1), (3, v1), (4, .int .i64 x2)] ∧ Inn w0.heap.size noB T0 w0 T1 w1 ∧ OwS rRecord 35 w0.heap.size T1 w1 v1 x1 ∧ loopM bd1 m (x1, x2) = some o1) NN ⟨_, _, _, _, _, env_has ⟨rfl, rfl, rfl, trivial⟩, Inn.refl hI0.lt hI0.le, ow2, ho1⟩ ?_)
  rintro m _ w1 ⟨J, T1, x1, v1, x2, rfl, hI1, ow1, ho1⟩
  have h1 := h1.mono hI1.imm
  obtain ⟨m1, z1, rfl, hm, hn1⟩ := loop_round ho1
  rw [hbd1] at hm
  refine sq2 ?_
  refine sq2 ?_
  refine rg (mi rfl (ms rfl (ln rfl Try.underlying22 (ib rfl rfl rfl (nil (t_then ?_))))))
  refine cnd rfl (fun hb1 => ?_) (fun hb1 => ?_)
  · have hm := ctrue hb1 hm
    refine skp (t_then ?_)
    refine sq2 ?_
    refine blk ?_
    obtain ⟨u1, hx1, hm⟩ := bindS hm
    refine rg (mx (v := v1) rfl (ms rfl (mi rfl (ixR rfl rfl h1 hx1 Try.underlying22 Try.sizeOf38 rfl fun b1 of1 cs1 hr1 hc1 => ?_))))
    cases rRecord_open hr1
    refine ldS rfl Try.isAgg38 Try.sizeOf38 rfl hc1 (cs := [.int .u32 u1.Seq, .int .u32 u1.Val]) (bs (cs := [.int .u32 u1.Seq, .int .u32 u1.Val]) Try.underlying24 Try.sizeOf35 Try.zeroValue35 rfl rfl (by kernel_rfl) rfl hI1.lt fun w2 b2 i2 bx1 ge1 nt1 => ?_)
    have gB1 : w0.heap.size ≤ b2 := Nat.le_trans hI1.le ge1
    have dj1 := dj_new ow1 ge1
    have hI1 := hI1.call i2 (fun _ h => h.elim)
    have h1 := h1.mono i2.imm
    have ow1 := ow1.kp i2 (fun _ _ => id)
    obtain ⟨_, hro1, hm⟩ := bindS hm
    refine ap1 (u := u1) rfl ow1 rfl bx1 (rRecord_mk (x := u1) : rRecord.rp _ _ _ _) Try.underlying24 el35 (room_some hro1) hI1.lt hI1.le fun v2 w3 i3 ow3 djA1 => ?_
    have hI1 := hI1.call i3 (fun k h => .inl (ow1.lt k h).1)
    have h1 := h1.mono i3.imm
    refine zx (v := v2) rfl (nil (t_blk (t_thenR [(0, .slice a1 (List.length p0) c1), (3, v2), (4, .int .i64 x2)] ⟨rfl, rfl, rfl, trivial⟩ fun J => ?_)))
    cases hm
    exact rg (mi rfl (ib rfl rfl rfl (zi rfl (nil (t_then ⟨m1, Nat.lt_succ_self _, _, _, _, _, _, env_has ⟨rfl, rfl, rfl, trivial⟩, hI1, ow3, hn1⟩)))))
  · have hm := cfalse hb1 hm
    cases hm
    have hn1 : _ = Lp.brk _ := hn1
    subst hn1
    have hm := thn_brk hq1
    have hI0 := hI0.trans hI1
    refine xt (x_then (x_then (x_eq (t_thenR [(3, v1)] ⟨rfl, trivial⟩ fun J => ?_))))
    refine sq2 ?_
    refine rg (mx (v := v1) rfl (?_))
    obtain ⟨a2, c2, hsh⟩ := ow1.shape
    subst hsh
    have h2 := ow1.sealR
    have hI0 := ow1.sealI hI0 (Nat.le_refl _)
    refine zs rfl (nil (t_then ?_))
    cases hm
    exact rtn (ret1 rfl rfl ⟨_, rfl, _, hI0, h2⟩)

set_option maxRecDepth 100000 in
set_option maxHeartbeats 1000000 in
theorem record_First_sim {T0 : Nat → Prop} {w0 : World} {p0 : List Record} {a1 : Option Addr} {c1 : Nat} {r : (List Record)} (hT : Bd T0 w0) (h1 : SlR rRecord T0 w0 (.slice a1 (List.length p0) c1) p0) (hm : record_First p0 = some r) :
    Calls Try.prog 9 #[.slice a1 (List.length p0) c1] w0 (Ret noB T0 w0 fun T w v => SlR rRecord T w v r) := by
  refine enter (args := [.slice a1 (List.length p0) c1]) Try.func9 rfl Try.ntmps9 rfl fun J => ?_
  have hI0 := Inn.refl (B := w0.heap.size) (M := noB) hT (Nat.le_refl _)
  unfold record_First at hm
  refine sq2 ?_
  refine rg (zs rfl (nil (t_then ?_)))
  refine sq2 ?_
  refine rg (mk hI0.lt fun w1 b1 i1 mp1 ge1 nt1 => ?_)
  have gB1 : w0.heap.size ≤ b1 := Nat.le_trans hI0.le ge1
  have hI0 := hI0.call i1 (fun _ h => h.elim)
  have h1 := h1.mono i1.imm
  have mp1 : MapR (Value.int .u32) Value.bool w1 b1 [] := mp1 _ _ _ _
  refine zm rfl (nil (t_then ?_))
  refine sq2 ?_
  refine rg (zs rfl (nil (t_then ?_)))
  refine sq2 ?_
  refine sq2 ?_
  refine rg (ms rfl (ln rfl Try.underlying22 (mi rfl (nil (t_then ?_)))))
  obtain ⟨o1, ho1, hq1⟩ := bindS hm
  obtain ⟨bd1, hbd1, ho1⟩ := loop_open ho1
  have ow2 : OwS rRecord 38 w0.heap.size T0 w1 (.slice none 0 0) [] := OwS.nil
  refine blk (wp_loop_ghost (fun m a w2 => ∃ (J : Nat → Value) (T2 : Nat → Prop) (x1 : List Record) (v1 : Value) (x2 : Int) (x3 : List (Int × Bool)), a = env 28 J [(3, .map (some b1)), (4, v1), (8, .slice a1 (List.length p0) c1), (9, .int .i64 (List.length p0 : Int)), (10, .int .i64 x2)] ∧ Inn w0.heap.size noB T0 w1 T2 w2 ∧ OwS rRecord 38 w0.heap.size T2 w2 v1 x1 ∧ MapR (Value.int .u32) Value.bool w2 b1 x3 ∧ ¬ T2 b1 ∧ Dj v1 b1 ∧ loopM bd1 m (x1, x2, x3) = some o1) NN ⟨_, _, _, _, _, _, env_has ⟨rfl, rfl, rfl, rfl, rfl, trivial⟩, Inn.refl hI0.lt hI0.le, ow2, mp1, nt1, dj_nil, ho1⟩ ?_)
  rintro m _ w2 ⟨J, T2, x1, v1, x2, x3, rfl, hI1, ow1, mp1, nt1, dj1, ho1⟩
  have h1 := h1.mono hI1.imm
  obtain ⟨m1, z1, rfl, hm, hn1⟩ := loop_round ho1
  rw [hbd1] at hm
  refine sq2 ?_
  refine rg (ib rfl rfl rfl (nil (t_then ?_)))
  refine sq2 ?_
  refine cnd rfl (fun hb1 => ?_) (fun hb1 => ?_)
  · have hm := ctrue hb1 hm
    refine skp (t_then ?_)
    obtain ⟨kk1, hkk1, hm⟩ := jn_open hm
    refine cut (fun a w3 => ∃ (J : Nat → Value) (T3 : Nat → Prop) (x4 : List Record) (v2 : Value) (x5 : List (Int × Bool)), a = env 28 J [(3, .map (some b1)), (4, v2), (8, .slice a1 (List.length p0) c1), (9, .int .i64 (List.length p0 : Int)), (10, .int .i64 x2)] ∧ Inn w0.heap.size noB T2 w2 T3 w3 ∧ OwS rRecord 38 w0.heap.size T3 w3 v2 x4 ∧ MapR (Value.int .u32) Value.bool w3 b1 x5 ∧ ¬ T3 b1 ∧ Dj v2 b1 ∧ kk1 x4 x5 = some z1) ?_ ?_
    · have hI2 := Inn.refl (B := w0.heap.size) (M := noB) hI1.lt hI1.le
      refine blk ?_
      refine sq2 ?_
      obtain ⟨u1, hx1, hm⟩ := bindS hm
      refine rg (ixR rfl rfl h1 hx1 Try.underlying22 Try.sizeOf38 rfl fun b2 of1 cs1 hr1 hc1 => ?_)
      cases rRecord_open hr1
      refine ldS rfl Try.isAgg38 Try.sizeOf38 rfl hc1 (cs := [.int .u32 u1.Seq, .int .u32 u1.Val]) (al (zs := [.int .u32 0, .int .u32 0]) Try.zeroValue38 rfl hI2.lt fun w4 b3 i4 bx1 ge2 nt2 => ?_)
      have gB2 : w0.heap.size ≤ b3 := Nat.le_trans hI2.le ge2
      have ne1 : b1 ≠ b3 := Nat.ne_of_lt (Nat.lt_of_lt_of_le mp1.lt ge2)
      have dj3 := dj_new ow1 ge2
      have hI2 := hI2.call i4 (fun _ h => h.elim)
      have h1 := h1.mono i4.imm
      have nt1 := i4.nT nt1 mp1.lt
      have mp1 := mp1.kp i4 id
      have ow1 := ow1.kp i4 (fun _ _ => id)
      refine st rfl rfl rfl Try.sizeOf38 rfl rfl bx1 rfl nt2 hI2.lt fun w5 i5 bx1n => ?_
      have bx1o := bx1
      have hI2 := hI2.call i5 (fun _ h => .inl (h ▸ gB2))
      have h1 := h1.mono i5.imm
      have nt1 := i5.nT nt1 mp1.lt
      have mp1 := mp1.kp i5 ne1
      have ow1 := ow1.kp i5 dj3
      have nt2 := i5.nT nt2 bx1o.lt
      have bx2 : Box w5 b3 [.int .u32 u1.Seq, .int .u32 u1.Val] := bx1n
      refine nil (t_then ?_)
      refine sq2 ?_
      refine rg (mm rfl (fa rfl Try.underlying38 rfl Try.sizeOf33 rfl (ld rfl Try.isAgg33 (bx2.cell 0) (lk1d (kk := u1.Seq) (u := false) rfl rfl mp1 (key_int .u32) Try.underlying42 Try.underlying33 Try.zeroValue4 rfl (nt rfl (nil (t_thenR [(3, .map (some b1)), (4, v1), (6, .pointer (some ⟨b3, 0, none⟩)), (8, .slice a1 (List.length p0) c1), (9, .int .i64 (List.length p0 : Int)), (10, .int .i64 x2), (18, .bool (!((mGet x3 u1.Seq).getD false)))] ⟨rfl, rfl, rfl, rfl, rfl, rfl, rfl, trivial⟩ fun J => ?_)))))))
      refine cnd rfl (fun hb2 => ?_) (fun hb2 => ?_)
      · have hm := ctrue hb2 hm
        refine sq2 ?_
        refine rg (mm rfl (fa rfl Try.underlying38 rfl Try.sizeOf33 rfl (ld rfl Try.isAgg33 (bx2.cell 0) (mu (k := u1.Seq) (u := true) rfl rfl rfl mp1 (key_int .u32) Try.underlying42 Try.underlying33 nt1 hI2.lt fun w6 i6 mp2 => ?_))))
        have mp1o := mp1
        have hI2 := hI2.call i6 (fun _ h => .inl (h ▸ gB1))
        have h1 := h1.mono i6.imm
        have nt2 := i6.nT nt2 bx2.lt
        have bx2 := bx2.kp i6 ne1.symm
        have ow1 := ow1.kp i6 dj1
        have nt1 := i6.nT nt1 mp1o.lt
        refine nil (t_then ?_)
        refine rg (mx (v := v1) rfl (ldS rfl Try.isAgg38 Try.sizeOf38 rfl (boxCells bx2 0 rfl) (cs := [.int .u32 u1.Seq, .int .u32 u1.Val]) (bs (cs := [.int .u32 u1.Seq, .int .u32 u1.Val]) Try.underlying22 Try.sizeOf38 Try.zeroValue38 rfl rfl (by kernel_rfl) rfl hI2.lt fun w7 b4 i7 bx3 ge3 nt3 => ?_)))
        have gB3 : w0.heap.size ≤ b4 := Nat.le_trans hI2.le ge3
        have ne2 : b1 ≠ b4 := Nat.ne_of_lt (Nat.lt_of_lt_of_le mp2.lt ge3)
        have dj4 := dj_new ow1 ge3
        have hI2 := hI2.call i7 (fun _ h => h.elim)
        have h1 := h1.mono i7.imm
        have nt1 := i7.nT nt1 mp2.lt
        have mp2 := mp2.kp i7 id
        have ow1 := ow1.kp i7 (fun _ _ => id)
        obtain ⟨_, hro1, hm⟩ := bindS hm
        refine ap1 (u := u1) rfl ow1 rfl bx3 (rRecord_mk (x := u1) : rRecord.rp _ _ _ _) Try.underlying22 el38 (room_some hro1) hI2.lt hI2.le fun v3 w8 i8 ow4 djA1 => ?_
        have dj5 := djA1 _ mp2.lt dj1
        have hI2 := hI2.call i8 (fun k h => .inl (ow1.lt k h).1)
        have h1 := h1.mono i8.imm
        have nt1 := i8.nT nt1 mp2.lt
        have mp2 := mp2.kp i8 (fun h => dj1 _ h rfl)
        exact zx (v := v3) rfl (nil (t_blk (t_then ⟨_, _, _, _, _, env_has ⟨rfl, rfl, rfl, rfl, rfl, trivial⟩, hI2, ow4, mp2, nt1, dj5, hm⟩)))
      · have hm := cfalse hb2 hm
        exact skp (t_blk (t_then ⟨_, _, _, _, _, env_has ⟨rfl, rfl, rfl, rfl, rfl, trivial⟩, hI2, ow1, mp1, nt1, dj1, hm⟩))
    · rintro _ w3 ⟨J, T3, x4, v2, x5, rfl, hI2, ow3, mp1, nt1, dj2, hm⟩
      rw [hkk1] at hm
      have h1 := h1.mono hI2.imm
      have hI1 := hI1.trans hI2
      cases hm
      exact rg (ib rfl rfl rfl (mi rfl (nil (t_then ⟨m1, Nat.lt_succ_self _, _, _, _, _, _, _, env_has ⟨rfl, rfl, rfl, rfl, rfl, trivial⟩, hI1, ow3, mp1, nt1, dj2, hn1⟩))))
  · have hm := cfalse hb1 hm
    cases hm
    have hn1 : _ = Lp.brk _ := hn1
    subst hn1
    have hm := thn_brk hq1
    have hI0 := hI0.trans hI1
    refine xt (x_then (x_then (x_eq (t_thenR [(4, v1)] ⟨rfl, trivial⟩ fun J => ?_))))
    refine sq2 ?_
    refine rg (mx (v := v1) rfl (?_))
    obtain ⟨a2, c2, hsh⟩ := ow1.shape
    subst hsh
    have h2 := ow1.sealR
    have hI0 := ow1.sealI hI0 (Nat.le_refl _)
    refine zs rfl (nil (t_then ?_))
    cases hm
    exact rtn (ret1 rfl rfl ⟨_, rfl, _, hI0, h2⟩)

set_option maxRecDepth 100000 in
set_option maxHeartbeats 1000000 in
theorem ref04_First_sim {T0 : Nat → Prop} {w0 : World} {p0 : List Record} {a1 : Option Addr} {c1 : Nat} {r : (List Record)} (hT : Bd T0 w0) (h1 : SlR rRecord T0 w0 (.slice a1 (List.length p0) c1) p0) (hm : ref04_First p0 = some r) :
    Calls Try.prog 10 #[.slice a1 (List.length p0) c1] w0 (Ret noB T0 w0 fun T w v => SlR rRecord T w v r) := by
  refine enter (args := [.slice a1 (List.length p0) c1]) Try.func10 rfl Try.ntmps10 rfl fun J => ?_
  have hI0 := Inn.refl (B := w0.heap.size) (M := noB) hT (Nat.le_refl _)
  unfold ref04_First at hm
  refine sq2 ?_
  refine rg (zs rfl (nil (t_then ?_)))
  refine sq2 ?_
  refine rg (zs rfl (nil (t_then ?_)))
  refine sq2 ?_
  refine sq2 ?_
  refine rg (zi rfl (nil (t_then ?_)))
  obtain ⟨o1, ho1, hq1⟩ := bindS hm
  obtain ⟨bd1, hbd1, ho1⟩ := loop_open ho1
  have ow2 : OwS rRecord 35 w0.heap.size T0 w0 (.slice none 0 0) [] := OwS.nil
  refine blk (wp_loop_ghost (fun m a w1 => ∃ (J : Nat → Value) (T1 : Nat → Prop) (x1 : List Record) (v1 : Value) (x2 : Int), a = env 23 J [(0, .slice a1 (List.length p0) c1), (3, v1), (4, .int .i64 x2)] ∧ Inn w0.heap.size noB T0 w0 T1 w1 ∧ OwS rRecord 35 w0.heap.size T1 w1 v1 x1 ∧ loopM bd1 m (x1, x2) = some o1) NN ⟨_, _, _, _, _, env_has ⟨rfl, rfl, rfl, trivial⟩, Inn.refl hI0.lt hI0.le, ow2, ho1⟩ ?_)
  rintro m _ w1 ⟨J, T1, x1, v1, x2, rfl, hI1, ow1, ho1⟩
  have h1 := h1.mono hI1.imm
  obtain ⟨m1, z1, rfl, hm, hn1⟩ := loop_round ho1
  rw [hbd1] at hm
  refine sq2 ?_
  refine sq2 ?_
  refine rg (mi rfl (ms rfl (ln rfl Try.underlying24 (ib rfl rfl rfl (nil (t_then ?_))))))
  refine cnd rfl (fun hb1 => ?_) (fun hb1 => ?_)
  · have hm := ctrue hb1 hm
    refine skp (t_then ?_)
    obtain ⟨kk1, hkk1, hm⟩ := jn_open hm
    refine cut (fun a w2 => ∃ (J : Nat → Value) (T2 : Nat → Prop) (x3 : List Record) (v2 : Value), a = env 23 J [(0, .slice a1 (List.length p0) c1), (3, v2), (4, .int .i64 x2)] ∧ Inn w0.heap.size noB T1 w1 T2 w2 ∧ OwS rRecord 35 w0.heap.size T2 w2 v2 x3 ∧ kk1 x3 = some z1) ?_ ?_
    · have hI2 := Inn.refl (B := w0.heap.size) (M := noB) hI1.lt hI1.le
      refine blk ?_
      refine sq2 ?_
      obtain ⟨y1, hx1, hm⟩ := bindS hm
      refine rg (ms rfl (mi rfl (cal cf18 (ref04_ahead_sim hI2.lt h1 hx1) rfl fun v3 T3 w3 i3 rv1 => ?_)))
      have hI2 := hI2.call i3 (fun _ h => h.elim)
      have h1 := h1.mono i3.imm
      have ow1 := ow1.kp i3 (fun _ _ => id)
      subst rv1
      refine ib rfl rfl rfl (nil (t_thenR [(0, .slice a1 (List.length p0) c1), (3, v1), (4, .int .i64 x2), (14, .bool (decide (y1 < 0)))] ⟨rfl, rfl, rfl, rfl, trivial⟩ fun J => ?_))
      refine cnd rfl (fun hb2 => ?_) (fun hb2 => ?_)
      · have hm := ctrue hb2 hm
        obtain ⟨u1, hx2, hm⟩ := bindS hm
        refine rg (mx (v := v1) rfl (ms rfl (mi rfl (ixR rfl rfl h1 hx2 Try.underlying24 Try.sizeOf35 rfl fun b1 of1 cs1 hr1 hc1 => ?_))))
        cases rRecord_open hr1
        refine ldS rfl Try.isAgg35 Try.sizeOf35 rfl hc1 (cs := [.int .u32 u1.Seq, .int .u32 u1.Val]) (bs (cs := [.int .u32 u1.Seq, .int .u32 u1.Val]) Try.underlying24 Try.sizeOf35 Try.zeroValue35 rfl rfl (by kernel_rfl) rfl hI2.lt fun w4 b2 i4 bx1 ge1 nt1 => ?_)
        have gB1 : w0.heap.size ≤ b2 := Nat.le_trans hI2.le ge1
        have dj1 := dj_new ow1 ge1
        have hI2 := hI2.call i4 (fun _ h => h.elim)
        have h1 := h1.mono i4.imm
        have ow1 := ow1.kp i4 (fun _ _ => id)
        obtain ⟨_, hro1, hm⟩ := bindS hm
        refine ap1 (u := u1) rfl ow1 rfl bx1 (rRecord_mk (x := u1) : rRecord.rp _ _ _ _) Try.underlying24 el35 (room_some hro1) hI2.lt hI2.le fun v4 w5 i5 ow4 djA1 => ?_
        have hI2 := hI2.call i5 (fun k h => .inl (ow1.lt k h).1)
        have h1 := h1.mono i5.imm
        exact zx (v := v4) rfl (nil (t_blk (t_then ⟨_, _, _, _, env_has ⟨rfl, rfl, rfl, trivial⟩, hI2, ow4, hm⟩)))
      · have hm := cfalse hb2 hm
        exact skp (t_blk (t_then ⟨_, _, _, _, env_has ⟨rfl, rfl, rfl, trivial⟩, hI2, ow1, hm⟩))
    · rintro _ w2 ⟨J, T2, x3, v2, rfl, hI2, ow3, hm⟩
      rw [hkk1] at hm
      have h1 := h1.mono hI2.imm
      have hI1 := hI1.trans hI2
      cases hm
      exact rg (mi rfl (ib rfl rfl rfl (zi rfl (nil (t_then ⟨m1, Nat.lt_succ_self _, _, _, _, _, _, env_has ⟨rfl, rfl, rfl, trivial⟩, hI1, ow3, hn1⟩)))))
  · have hm := cfalse hb1 hm
    cases hm
    have hn1 : _ = Lp.brk _ := hn1
    subst hn1
    have hm := thn_brk hq1
    have hI0 := hI0.trans hI1
    refine xt (x_then (x_then (x_eq (t_thenR [(3, v1)] ⟨rfl, trivial⟩ fun J => ?_))))
    refine sq2 ?_
    refine rg (mx (v := v1) rfl (?_))
    obtain ⟨a2, c2, hsh⟩ := ow1.shape
    subst hsh
    have h2 := ow1.sealR
    have hI0 := ow1.sealI hI0 (Nat.le_refl _)
    refine zs rfl (nil (t_then ?_))
    cases hm
    exact rtn (ret1 rfl rfl ⟨_, rfl, _, hI0, h2⟩)

set_option maxRecDepth 100000 in
set_option maxHeartbeats 1000000 in
theorem record_Values_sim {T0 : Nat → Prop} {w0 : World} {p0 : List Record} {a1 : Option Addr} {c1 : Nat} {r : (List Int)} (hT : Bd T0 w0) (h1 : SlR rRecord T0 w0 (.slice a1 (List.length p0) c1) p0) (hm : record_Values p0 = some r) :
    Calls Try.prog 11 #[.slice a1 (List.length p0) c1] w0 (Ret noB T0 w0 fun T w v => SlR (rInt .u32) T w v r) := by
  refine enter (args := [.slice a1 (List.length p0) c1]) Try.func11 rfl Try.ntmps11 rfl fun J => ?_
  have hI0 := Inn.refl (B := w0.heap.size) (M := noB) hT (Nat.le_refl _)
  unfold record_Values at hm
  refine sq2 ?_
  refine rg (zs rfl (nil (t_then ?_)))
  refine sq2 ?_
  refine rg (zs rfl (nil (t_then ?_)))
  refine sq2 ?_
  refine sq2 ?_
  obtain ⟨y1, hx1, hm⟩ := bindS hm
  refine rg (ms rfl (cal cf9 (record_First_sim hI0.lt h1 hx1) rfl fun v1 T1 w1 i1 rv1 => ?_))
  have hI0 := hI0.call i1 (fun _ h => h.elim)
  obtain ⟨a2, c2, rfl⟩ := rv1.shape
  have h2 := rv1
  refine ln rfl Try.underlying22 (mi rfl (nil (t_then ?_)))
  obtain ⟨o1, ho1, hq1⟩ := bindS hm
  obtain ⟨bd1, hbd1, ho1⟩ := loop_open ho1
  have ow2 : OwS (rInt .u32) 33 w0.heap.size T1 w1 (.slice none 0 0) [] := OwS.nil
  refine blk (wp_loop_ghost (fun m a w2 => ∃ (J : Nat → Value) (T2 : Nat → Prop) (x1 : List Int) (v2 : Value) (x2 : Int), a = env 20 J [(3, v2), (7, .slice a2 (List.length y1) c2), (8, .int .i64 (List.length y1 : Int)), (9, .int .i64 x2)] ∧ Inn w0.heap.size noB T1 w1 T2 w2 ∧ OwS (rInt .u32) 33 w0.heap.size T2 w2 v2 x1 ∧ loopM bd1 m (x1, x2) = some o1) NN ⟨_, _, _, _, _, env_has ⟨rfl, rfl, rfl, rfl, trivial⟩, Inn.refl hI0.lt hI0.le, ow2, ho1⟩ ?_)
  rintro m _ w2 ⟨J, T2, x1, v2, x2, rfl, hI1, ow1, ho1⟩
  have h2 := h2.mono hI1.imm
  obtain ⟨m1, z1, rfl, hm, hn1⟩ := loop_round ho1
  rw [hbd1] at hm
  refine sq2 ?_
  refine rg (ib rfl rfl rfl (nil (t_then ?_)))
  refine sq2 ?_
  refine cnd rfl (fun hb1 => ?_) (fun hb1 => ?_)
  · have hm := ctrue hb1 hm
    refine skp (t_then ?_)
    refine sq2 ?_
    refine blk ?_
    refine sq2 ?_
    obtain ⟨u1, hx2, hm⟩ := bindS hm
    refine rg (ixR rfl rfl h2 hx2 Try.underlying22 Try.sizeOf38 rfl fun b1 of1 cs1 hr1 hc1 => ?_)
    cases rRecord_open hr1
    refine ldS rfl Try.isAgg38 Try.sizeOf38 rfl hc1 (cs := [.int .u32 u1.Seq, .int .u32 u1.Val]) (al (zs := [.int .u32 0, .int .u32 0]) Try.zeroValue38 rfl hI1.lt fun w3 b2 i3 bx1 ge1 nt1 => ?_)
    have gB1 : w0.heap.size ≤ b2 := Nat.le_trans hI1.le ge1
    have dj1 := dj_new ow1 ge1
    have hI1 := hI1.call i3 (fun _ h => h.elim)
    have h2 := h2.mono i3.imm
    have ow1 := ow1.kp i3 (fun _ _ => id)
    refine st rfl rfl rfl Try.sizeOf38 rfl rfl bx1 rfl nt1 hI1.lt fun w4 i4 bx1n => ?_
    have bx1o := bx1
    have hI1 := hI1.call i4 (fun _ h => .inl (h ▸ gB1))
    have h2 := h2.mono i4.imm
    have ow1 := ow1.kp i4 dj1
    have nt1 := i4.nT nt1 bx1o.lt
    have bx2 : Box w4 b2 [.int .u32 u1.Seq, .int .u32 u1.Val] := bx1n
    refine nil (t_then ?_)
    refine rg (mx (v := v2) rfl (fa rfl Try.underlying38 rfl Try.sizeOf33 rfl (ld rfl Try.isAgg33 (bx2.cell 1) (bs (cs := [.int .u32 u1.Val]) Try.underlying28 Try.sizeOf33 Try.zeroValue33 rfl rfl (by kernel_rfl) rfl hI1.lt fun w5 b3 i5 bx3 ge2 nt2 => ?_))))
    have gB2 : w0.heap.size ≤ b3 := Nat.le_trans hI1.le ge2
    have dj2 := dj_new ow1 ge2
    have hI1 := hI1.call i5 (fun _ h => h.elim)
    have h2 := h2.mono i5.imm
    have ow1 := ow1.kp i5 (fun _ _ => id)
    obtain ⟨_, hro1, hm⟩ := bindS hm
    refine ap1 (u := u1.Val) rfl ow1 rfl bx3 rfl Try.underlying28 el33 (room_some hro1) hI1.lt hI1.le fun v3 w6 i6 ow3 djA1 => ?_
    have hI1 := hI1.call i6 (fun k h => .inl (ow1.lt k h).1)
    have h2 := h2.mono i6.imm
    refine zx (v := v3) rfl (nil (t_blk (t_thenR [(3, v3), (7, .slice a2 (List.length y1) c2), (8, .int .i64 (List.length y1 : Int)), (9, .int .i64 x2)] ⟨rfl, rfl, rfl, rfl, trivial⟩ fun J => ?_)))
    cases hm
    exact rg (ib rfl rfl rfl (mi rfl (nil (t_then ⟨m1, Nat.lt_succ_self _, _, _, _, _, _, env_has ⟨rfl, rfl, rfl, rfl, trivial⟩, hI1, ow3, hn1⟩))))
  · have hm := cfalse hb1 hm
    cases hm
    have hn1 : _ = Lp.brk _ := hn1
    subst hn1
    have hm := thn_brk hq1
    have hI0 := hI0.trans hI1
    refine xt (x_then (x_then (x_eq (t_then ?_))))
    refine sq2 ?_
    refine rg (mx (v := v2) rfl (?_))
    obtain ⟨a3, c3, hsh⟩ := ow1.shape
    subst hsh
    have h3 := ow1.sealR
    have hI0 := ow1.sealI hI0 (Nat.le_refl _)
    refine zs rfl (nil (t_thenR [(2, .slice a3 (List.length x1) c3)] ⟨rfl, trivial⟩ fun J => ?_))
    cases hm
    exact rtn (ret1 rfl rfl ⟨_, rfl, _, hI0, h3⟩)

set_option maxRecDepth 100000 in
set_option maxHeartbeats 1000000 in
theorem record_Replays_sim {T0 : Nat → Prop} {w0 : World} {p0 : List Record} {a1 : Option Addr} {c1 : Nat} {r : Int} (hT : Bd T0 w0) (h1 : SlR rRecord T0 w0 (.slice a1 (List.length p0) c1) p0) (hm : record_Replays p0 = some r) :
    Calls Try.prog 12 #[.slice a1 (List.length p0) c1] w0 (Ret noB T0 w0 fun _ _ v => v = .int .i64 r) := by
  refine enter (args := [.slice a1 (List.length p0) c1]) Try.func12 rfl Try.ntmps12 rfl fun J => ?_
  have hI0 := Inn.refl (B := w0.heap.size) (M := noB) hT (Nat.le_refl _)
  unfold record_Replays at hm
  refine sq2 ?_
  refine rg (zi rfl (nil (t_then ?_)))
  refine sq2 ?_
  obtain ⟨y1, hx1, hm⟩ := bindS hm
  refine rg (ms rfl (ln rfl Try.underlying22 (ms rfl (cal cf9 (record_First_sim hI0.lt h1 hx1) rfl fun v1 T1 w1 i1 rv1 => ?_))))
  have hI0 := hI0.call i1 (fun _ h => h.elim)
  obtain ⟨a2, c2, rfl⟩ := rv1.shape
  have h2 := rv1
  refine ln rfl Try.underlying22 (ib rfl rfl rfl (zi rfl (nil (t_thenR [(2, .int .i64 (IntKind.wrap .i64 ((List.length p0 : Int) - (List.length y1 : Int))))] ⟨rfl, trivial⟩ fun J => ?_))))
  cases hm
  exact rtn (ret1 rfl rfl ⟨_, rfl, _, hI0, rfl⟩)

set_option maxRecDepth 100000 in
set_option maxHeartbeats 1000000 in
theorem record_Orderly_sim {T0 : Nat → Prop} {w0 : World} {p0 : List Record} {a1 : Option Addr} {c1 : Nat} {r : Bool} (hT : Bd T0 w0) (h1 : SlR rRecord T0 w0 (.slice a1 (List.length p0) c1) p0) (hm : record_Orderly p0 = some r) :
    Calls Try.prog 13 #[.slice a1 (List.length p0) c1] w0 (Ret noB T0 w0 fun _ _ v => v = .bool r) := by
  refine enter (args := [.slice a1 (List.length p0) c1]) Try.func13 rfl Try.ntmps13 rfl fun J => ?_
  have hI0 := Inn.refl (B := w0.heap.size) (M := noB) hT (Nat.le_refl _)
  unfold record_Orderly at hm
  refine sq2 ?_
  refine rg (zb rfl (nil (t_then ?_)))
  refine sq2 ?_
  refine rg (zs rfl (nil (t_then ?_)))
  refine sq2 ?_
  refine sq2 ?_
  refine rg (ms rfl (ln rfl Try.underlying22 (mi rfl (nil (t_then ?_)))))
  obtain ⟨o1, ho1, hq1⟩ := bindS hm
  obtain ⟨bd1, hbd1, ho1⟩ := loop_open ho1
  have ow2 : OwS (rInt .u32) 33 w0.heap.size T0 w0 (.slice none 0 0) [] := OwS.nil
  refine blk (wp_loop_ghost (fun m a w1 => ∃ (J : Nat → Value) (T1 : Nat → Prop) (x1 : List Int) (v1 : Value) (x2 : Int), a = env 41 J [(3, v1), (7, .slice a1 (List.length p0) c1), (8, .int .i64 (List.length p0 : Int)), (9, .int .i64 x2)] ∧ Inn w0.heap.size noB T0 w0 T1 w1 ∧ OwS (rInt .u32) 33 w0.heap.size T1 w1 v1 x1 ∧ loopM bd1 m (x1, x2) = some o1) NN ⟨_, _, _, _, _, env_has ⟨rfl, rfl, rfl, rfl, trivial⟩, Inn.refl hI0.lt hI0.le, ow2, ho1⟩ ?_)
  rintro m _ w1 ⟨J, T1, x1, v1, x2, rfl, hI1, ow1, ho1⟩
  have h1 := h1.mono hI1.imm
  obtain ⟨m1, z1, rfl, hm, hn1⟩ := loop_round ho1
  rw [hbd1] at hm
  refine sq2 ?_
  refine rg (ib rfl rfl rfl (nil (t_then ?_)))
  refine sq2 ?_
  refine cnd rfl (fun hb1 => ?_) (fun hb1 => ?_)
  · have hm := ctrue hb1 hm
    refine skp (t_then ?_)
    obtain ⟨kk1, hkk1, hm⟩ := jn_open hm
    refine cut (fun a w2 => ∃ (J : Nat → Value) (T2 : Nat → Prop) (x3 : List Int) (v2 : Value), a = env 41 J [(3, v2), (7, .slice a1 (List.length p0) c1), (8, .int .i64 (List.length p0 : Int)), (9, .int .i64 x2)] ∧ Inn w0.heap.size noB T1 w1 T2 w2 ∧ OwS (rInt .u32) 33 w0.heap.size T2 w2 v2 x3 ∧ kk1 x3 = some z1) ?_ ?_
    · have hI2 := Inn.refl (B := w0.heap.size) (M := noB) hI1.lt hI1.le
      refine blk ?_
      refine sq2 ?_
      obtain ⟨u1, hx1, hm⟩ := bindS hm
      refine rg (ixR rfl rfl h1 hx1 Try.underlying22 Try.sizeOf38 rfl fun b1 of1 cs1 hr1 hc1 => ?_)
      cases rRecord_open hr1
      refine ldS rfl Try.isAgg38 Try.sizeOf38 rfl hc1 (cs := [.int .u32 u1.Seq, .int .u32 u1.Val]) (al (zs := [.int .u32 0, .int .u32 0]) Try.zeroValue38 rfl hI2.lt fun w3 b2 i3 bx1 ge1 nt1 => ?_)
      have gB1 : w0.heap.size ≤ b2 := Nat.le_trans hI2.le ge1
      have dj1 := dj_new ow1 ge1
      have hI2 := hI2.call i3 (fun _ h => h.elim)
      have h1 := h1.mono i3.imm
      have ow1 := ow1.kp i3 (fun _ _ => id)
      refine st rfl rfl rfl Try.sizeOf38 rfl rfl bx1 rfl nt1 hI2.lt fun w4 i4 bx1n => ?_
      have bx1o := bx1
      have hI2 := hI2.call i4 (fun _ h => .inl (h ▸ gB1))
      have h1 := h1.mono i4.imm
      have ow1 := ow1.kp i4 dj1
      have nt1 := i4.nT nt1 bx1o.lt
      have bx2 : Box w4 b2 [.int .u32 u1.Seq, .int .u32 u1.Val] := bx1n
      refine nil (t_then ?_)
      refine sq2 ?_
      refine rg (mx (v := v1) rfl (lnO rfl ow1 Try.underlying28 (cv rfl Try.underlying3 Try.underlying33 (zi rfl (nil (t_thenR [(3, v1), (5, .pointer (some ⟨b2, 0, none⟩)), (6, .int .u32 (IntKind.wrap .u32 (List.length x1 : Int))), (7, .slice a1 (List.length p0) c1), (8, .int .i64 (List.length p0 : Int)), (9, .int .i64 x2)] ⟨rfl, rfl, rfl, rfl, rfl, rfl, trivial⟩ fun J => ?_))))))
      refine blk ?_
      refine sq2 ?_
      refine rg (fa rfl Try.underlying38 rfl Try.sizeOf33 rfl (ld rfl Try.isAgg33 (bx2.cell 0) (mi rfl (ib rfl rfl rfl (zb rfl (nil (t_then ?_)))))))
      refine cnd rfl (fun hb2 => ?_) (fun hb2 => ?_)
      · have hm := ctrue hb2 hm
        refine sq2 ?_
        refine rg (zb rfl (nil (t_thenR [(2, .bool false)] ⟨rfl, trivial⟩ fun J => ?_)))
        have hIr := hI0.trans (hI1.trans hI2)
        cases hm
        have hn1 : _ = Lp.ret _ := hn1
        subst hn1
        have hm := thn_ret hq1
        cases hm
        exact rtn (r_blk (r_blk (r_then (r_then (r_blk (r_then (ret1 rfl rfl ⟨_, rfl, _, hIr, rfl⟩)))))))
      · have hm := cfalse hb2 hm
        refine sq2 ?_
        refine rg (fa rfl Try.underlying38 rfl Try.sizeOf33 rfl (ld rfl Try.isAgg33 (bx2.cell 0) (mi rfl (ib rfl rfl rfl (zb rfl (nil (t_thenR [(3, v1), (5, .pointer (some ⟨b2, 0, none⟩)), (7, .slice a1 (List.length p0) c1), (8, .int .i64 (List.length p0 : Int)), (9, .int .i64 x2), (21, .bool (u1.Seq == (IntKind.wrap .u32 (List.length x1 : Int))))] ⟨rfl, rfl, rfl, rfl, rfl, rfl, trivial⟩ fun J => ?_)))))))
        refine cnd rfl (fun hb3 => ?_) (fun hb3 => ?_)
        · have hm := ctrue hb3 hm
          refine rg (mx (v := v1) rfl (fa rfl Try.underlying38 rfl Try.sizeOf33 rfl (ld rfl Try.isAgg33 (bx2.cell 1) (bs (cs := [.int .u32 u1.Val]) Try.underlying28 Try.sizeOf33 Try.zeroValue33 rfl rfl (by kernel_rfl) rfl hI2.lt fun w5 b3 i5 bx3 ge2 nt2 => ?_))))
          have gB2 : w0.heap.size ≤ b3 := Nat.le_trans hI2.le ge2
          have dj2 := dj_new ow1 ge2
          have hI2 := hI2.call i5 (fun _ h => h.elim)
          have h1 := h1.mono i5.imm
          have ow1 := ow1.kp i5 (fun _ _ => id)
          obtain ⟨_, hro1, hm⟩ := bindS hm
          refine ap1 (u := u1.Val) rfl ow1 rfl bx3 rfl Try.underlying28 el33 (room_some hro1) hI2.lt hI2.le fun v3 w6 i6 ow4 djA1 => ?_
          have hI2 := hI2.call i6 (fun k h => .inl (ow1.lt k h).1)
          have h1 := h1.mono i6.imm
          exact zx (v := v3) rfl (nil (t_blk (t_blk (t_then ⟨_, _, _, _, env_has ⟨rfl, rfl, rfl, rfl, trivial⟩, hI2, ow4, hm⟩))))
        · have hm := cfalse hb3 hm
          refine sq2 ?_
          obtain ⟨u2, hx2, hm⟩ := bindS hm
          refine rq mix (by kernel_rfl) hI2.lt (qmx (v := v1) rfl (qfa rfl Try.underlying38 rfl Try.sizeOf33 rfl (qld rfl Try.isAgg33 (bx2.cell 0) (qixO rfl rfl ow1 hx2 Try.underlying28 Try.sizeOf33 rfl fun b4 of2 cs2 hr2 hc2 => ?_))))
          cases hr2
          refine qld rfl Try.isAgg33 (hc2.get (j := 0) rfl) (qfa rfl Try.underlying38 rfl Try.sizeOf33 rfl (qld rfl Try.isAgg33 (bx2.cell 1) (qib rfl rfl rfl (qzb rfl (qn fun w7 T7 i7 => ?_)))))
          have hI2 := hI2.call i7 (fun _ h => h.elim)
          have h1 := h1.mono i7.imm
          have ow1 := ow1.kp i7 (fun _ _ => id)
          refine t_thenR [(3, v1), (7, .slice a1 (List.length p0) c1), (8, .int .i64 (List.length p0 : Int)), (9, .int .i64 x2), (31, .bool (u2 != u1.Val))] ⟨rfl, rfl, rfl, rfl, rfl, trivial⟩ fun J => ?_
          refine cnd rfl (fun hb4 => ?_) (fun hb4 => ?_)
          · have hm := ctrue hb4 hm
            refine sq2 ?_
            refine rg (zb rfl (nil (t_thenR [(2, .bool false)] ⟨rfl, trivial⟩ fun J => ?_)))
            have hIr := hI0.trans (hI1.trans hI2)
            cases hm
            have hn1 : _ = Lp.ret _ := hn1
            subst hn1
            have hm := thn_ret hq1
            cases hm
            exact rtn (r_blk (r_blk (r_then (r_then (r_blk (r_then (ret1 rfl rfl ⟨_, rfl, _, hIr, rfl⟩)))))))
          · have hm := cfalse hb4 hm
            exact skp (t_blk (t_blk (t_then ⟨_, _, _, _, env_has ⟨rfl, rfl, rfl, rfl, trivial⟩, hI2, ow1, hm⟩)))
    · rintro _ w2 ⟨J, T2, x3, v2, rfl, hI2, ow3, hm⟩
      rw [hkk1] at hm
      have h1 := h1.mono hI2.imm
      have hI1 := hI1.trans hI2
      cases hm
      exact rg (ib rfl rfl rfl (mi rfl (nil (t_then ⟨m1, Nat.lt_succ_self _, _, _, _, _, _, env_has ⟨rfl, rfl, rfl, rfl, trivial⟩, hI1, ow3, hn1⟩))))
  · have hm := cfalse hb1 hm
    cases hm
    have hn1 : _ = Lp.brk _ := hn1
    subst hn1
    have hm := thn_brk hq1
    have hI0 := hI0.trans hI1
    refine xt (x_then (x_then (x_eq (t_thenR [] trivial fun J => ?_))))
    refine sq2 ?_
    refine rg (zb rfl (nil (t_then ?_)))
    cases hm
    exact rtn (ret1 rfl rfl ⟨_, rfl, _, hI0, rfl⟩)

set_option maxRecDepth 100000 in
set_option maxHeartbeats 1000000 in
theorem ref04_Orderly_sim {T0 : Nat → Prop} {w0 : World} {p0 : List Record} {a1 : Option Addr} {c1 : Nat} {r : Bool} (hT : Bd T0 w0) (h1 : SlR rRecord T0 w0 (.slice a1 (List.length p0) c1) p0) (hm : ref04_Orderly p0 = some r) :
    Calls Try.prog 14 #[.slice a1 (List.length p0) c1] w0 (Ret noB T0 w0 fun _ _ v => v = .bool r) := by
  refine enter (args := [.slice a1 (List.length p0) c1]) Try.func14 rfl Try.ntmps14 rfl fun J => ?_
  have hI0 := Inn.refl (B := w0.heap.size) (M := noB) hT (Nat.le_refl _)
  unfold ref04_Orderly at hm
  refine sq2 ?_
  refine rg (zb rfl (nil (t_then ?_)))
  refine sq2 ?_
  refine sq2 ?_
  refine rg (zi rfl (nil (t_then ?_)))
  obtain ⟨o1, ho1, hq1⟩ := bindS hm
  obtain ⟨bd1, hbd1, ho1⟩ := loop_open ho1
  refine blk (wp_loop_ghost (fun m a w1 => ∃ (J : Nat → Value) (T1 : Nat → Prop) (x1 : Int), a = env 59 J [(0, .slice a1 (List.length p0) c1), (3, .int .i64 x1)] ∧ Inn w0.heap.size noB T0 w0 T1 w1 ∧ loopM bd1 m x1 = some o1) NN ⟨_, _, _, env_has ⟨rfl, rfl, trivial⟩, Inn.refl hI0.lt hI0.le, ho1⟩ ?_)
  rintro m _ w1 ⟨J, T1, x1, rfl, hI1, ho1⟩
  have h1 := h1.mono hI1.imm
  obtain ⟨m1, z1, rfl, hm, hn1⟩ := loop_round ho1
  rw [hbd1] at hm
  refine sq2 ?_
  refine sq2 ?_
  refine rg (mi rfl (ms rfl (ln rfl Try.underlying24 (ib rfl rfl rfl (nil (t_then ?_))))))
  refine cnd rfl (fun hb1 => ?_) (fun hb1 => ?_)
  · have hm := ctrue hb1 hm
    refine skp (t_then ?_)
    refine sq2 ?_
    refine blk ?_
    refine sq2 ?_
    refine rg (zi rfl (nil (t_then ?_)))
    refine sq2 ?_
    refine sq2 ?_
    refine rg (zi rfl (nil (t_then ?_)))
    obtain ⟨o2, ho2, hq2⟩ := bindS hm
    obtain ⟨bd2, hbd2, ho2⟩ := loop_open ho2
    refine blk (wp_loop_ghost (fun m a w2 => ∃ (J : Nat → Value) (T2 : Nat → Prop) (x2 : Int) (x3 : Int), a = env 59 J [(0, .slice a1 (List.length p0) c1), (3, .int .i64 x1), (4, .int .i64 x2), (5, .int .i64 x3)] ∧ Inn w0.heap.size noB T1 w1 T2 w2 ∧ loopM bd2 m (x2, x3) = some o2) NN ⟨_, _, _, _, env_has ⟨rfl, rfl, rfl, rfl, trivial⟩, Inn.refl hI1.lt hI1.le, ho2⟩ ?_)
    rintro m _ w2 ⟨J, T2, x2, x3, rfl, hI2, ho2⟩
    have h1 := h1.mono hI2.imm
    obtain ⟨m2, z2, rfl, hm, hn2⟩ := loop_round ho2
    rw [hbd2] at hm
    refine sq2 ?_
    refine sq2 ?_
    refine rg (mi rfl (mi rfl (ib rfl rfl rfl (nil (t_then ?_)))))
    refine cnd rfl (fun hb2 => ?_) (fun hb2 => ?_)
    · have hm := ctrue hb2 hm
      refine skp (t_then ?_)
      obtain ⟨kk1, hkk1, hm⟩ := jn_open hm
      refine cut (fun a w3 => ∃ (J : Nat → Value) (T3 : Nat → Prop) (x4 : Int), a = env 59 J [(0, .slice a1 (List.length p0) c1), (3, .int .i64 x1), (4, .int .i64 x4), (5, .int .i64 x3)] ∧ Inn w0.heap.size noB T2 w2 T3 w3 ∧ kk1 x4 = some z2) ?_ ?_
      · have hI3 := Inn.refl (B := w0.heap.size) (M := noB) hI2.lt hI2.le
        refine blk ?_
        refine sq2 ?_
        obtain ⟨u1, hx1, hm⟩ := bindS hm
        refine rg (ms rfl (mi rfl (ixR rfl rfl h1 hx1 Try.underlying24 Try.sizeOf35 rfl fun b1 of1 cs1 hr1 hc1 => ?_)))
        cases rRecord_open hr1
        refine fa rfl Try.underlying35 rfl Try.sizeOf33 rfl (ld rfl Try.isAgg33 (hc1.get (j := 0) rfl) (cv rfl Try.underlying33 Try.underlying3 (mi rfl (ib rfl rfl rfl (nil (t_then ?_))))))
        refine cnd rfl (fun hb3 => ?_) (fun hb3 => ?_)
        · have hm := ctrue hb3 hm
          obtain ⟨u2, hx2, hm⟩ := bindS hm
          refine rg (ms rfl (mi rfl (ixR rfl rfl h1 hx2 Try.underlying24 Try.sizeOf35 rfl fun b2 of2 cs2 hr2 hc2 => ?_)))
          cases rRecord_open hr2
          exact fa rfl Try.underlying35 rfl Try.sizeOf33 rfl (ld rfl Try.isAgg33 (hc2.get (j := 0) rfl) (cv rfl Try.underlying33 Try.underlying3 (zi rfl (nil (t_blk (t_then ⟨_, _, _, env_has ⟨rfl, rfl, rfl, rfl, trivial⟩, hI3, hm⟩))))))
        · have hm := cfalse hb3 hm
          exact skp (t_blk (t_then ⟨_, _, _, env_has ⟨rfl, rfl, rfl, rfl, trivial⟩, hI3, hm⟩))
      · rintro _ w3 ⟨J, T3, x4, rfl, hI3, hm⟩
        rw [hkk1] at hm
        have h1 := h1.mono hI3.imm
        have hI2 := hI2.trans hI3
        cases hm
        exact rg (mi rfl (ib rfl rfl rfl (zi rfl (nil (t_then ⟨m2, Nat.lt_succ_self _, _, _, _, _, env_has ⟨rfl, rfl, rfl, rfl, trivial⟩, hI2, hn2⟩)))))
    · have hm := cfalse hb2 hm
      cases hm
      have hn2 : _ = Lp.brk _ := hn2
      subst hn2
      have hm := thn_brk hq2
      have hI1 := hI1.trans hI2
      refine xt (x_then (x_then (x_eq (t_then ?_))))
      refine sq2 ?_
      refine sq2 ?_
      obtain ⟨u3, hx3, hm⟩ := bindS hm
      refine rg (ms rfl (mi rfl (ixR rfl rfl h1 hx3 Try.underlying24 Try.sizeOf35 rfl fun b3 of3 cs3 hr3 hc3 => ?_)))
      cases rRecord_open hr3
      refine fa rfl Try.underlying35 rfl Try.sizeOf33 rfl (ld rfl Try.isAgg33 (hc3.get (j := 0) rfl) (cv rfl Try.underlying33 Try.underlying3 (mi rfl (ib rfl rfl rfl (ib rfl rfl rfl (nil (t_then ?_)))))))
      refine cnd rfl (fun hb4 => ?_) (fun hb4 => ?_)
      · have hm := ctrue hb4 hm
        refine sq2 ?_
        refine rg (zb rfl (nil (t_thenR [(2, .bool false)] ⟨rfl, trivial⟩ fun J => ?_)))
        have hIr := hI0.trans hI1
        cases hm
        have hn1 : _ = Lp.ret _ := hn1
        subst hn1
        have hm := thn_ret hq1
        cases hm
        exact rtn (r_then (r_blk (r_then (r_then (r_blk (r_then (ret1 rfl rfl ⟨_, rfl, _, hIr, rfl⟩)))))))
      · have hm := cfalse hb4 hm
        refine skp (t_then ?_)
        refine sq2 ?_
        obtain ⟨y1, hx4, hm⟩ := bindS hm
        refine rg (ms rfl (mi rfl (cal cf18 (ref04_ahead_sim hI1.lt h1 hx4) rfl fun v1 T4 w4 i4 rv1 => ?_)))
        have hI1 := hI1.call i4 (fun _ h => h.elim)
        have h1 := h1.mono i4.imm
        subst rv1
        refine zi rfl (nil (t_thenR [(0, .slice a1 (List.length p0) c1), (3, .int .i64 x1), (6, .int .i64 y1)] ⟨rfl, rfl, rfl, trivial⟩ fun J => ?_))
        refine sq2 ?_
        refine rq mix (by kernel_rfl) hI1.lt (qmi rfl (qib rfl rfl rfl (qmb rfl (?_))))
        rcases Bool.eq_false_or_eq_true (decide (0 ≤ y1)) with hb5 | hb5
        · have hm := ctrue hb5 hm
          obtain ⟨u4, hx5, hm⟩ := bindS hm
          refine qgT (d0 := 46) rfl rfl hb5 (qms rfl (qgT (d0 := 46) rfl rfl hb5 (qmi rfl (qgT (d0 := 46) rfl rfl hb5 (qixR rfl rfl h1 hx5 Try.underlying24 Try.sizeOf35 rfl fun b4 of4 cs4 hr4 hc4 => ?_)))))
          cases rRecord_open hr4
          obtain ⟨u5, hx6, hm⟩ := bindS hm
          refine qgT (d0 := 46) rfl rfl hb5 (qfa rfl Try.underlying35 rfl Try.sizeOf33 rfl (qgT (d0 := 46) rfl rfl hb5 (qld rfl Try.isAgg33 (hc4.get (j := 1) rfl) (qgT (d0 := 46) rfl rfl hb5 (qms rfl (qgT (d0 := 46) rfl rfl hb5 (qmi rfl (qgT (d0 := 46) rfl rfl hb5 (qixR rfl rfl h1 hx6 Try.underlying24 Try.sizeOf35 rfl fun b5 of5 cs5 hr5 hc5 => ?_)))))))))
          cases rRecord_open hr5
          refine qgT (d0 := 46) rfl rfl hb5 (qfa rfl Try.underlying35 rfl Try.sizeOf33 rfl (qgT (d0 := 46) rfl rfl hb5 (qld rfl Try.isAgg33 (hc5.get (j := 1) rfl) (qgT (d0 := 46) rfl rfl hb5 (qib rfl rfl rfl (qpkt rfl hb5 rfl (qn fun w5 T5 i5 => ?_)))))))
          have hI1 := hI1.call i5 (fun _ h => h.elim)
          have h1 := h1.mono i5.imm
          refine t_then ?_
          refine cnd rfl (fun hb6 => ?_) (fun hb6 => ?_)
          · have hm := ctrue hb6 hm
            refine sq2 ?_
            refine rg (zb rfl (nil (t_thenR [(2, .bool false)] ⟨rfl, trivial⟩ fun J => ?_)))
            have hIr := hI0.trans hI1
            cases hm
            have hn1 : _ = Lp.ret _ := hn1
            subst hn1
            have hm := thn_ret hq1
            cases hm
            exact rtn (r_blk (r_then (r_then (r_blk (r_then (ret1 rfl rfl ⟨_, rfl, _, hIr, rfl⟩))))))
          · have hm := cfalse hb6 hm
            refine skp (t_blk (t_thenR [(0, .slice a1 (List.length p0) c1), (3, .int .i64 x1), (47, .slice a1 (List.length p0) c1), (48, .int .i64 y1), (51, .int .u32 u4.Val), (52, .slice a1 (List.length p0) c1), (53, .int .i64 x1), (56, .int .u32 u5.Val), (57, .bool (u4.Val != u5.Val))] ⟨rfl, rfl, rfl, rfl, rfl, rfl, rfl, rfl, rfl, trivial⟩ fun J => ?_))
            cases hm
            exact rg (mi rfl (ib rfl rfl rfl (zi rfl (nil (t_then ⟨m1, Nat.lt_succ_self _, _, _, _, env_has ⟨rfl, rfl, trivial⟩, hI1, hn1⟩)))))
        · have hm := cfalse hb5 hm
          refine qgF (d0 := 46) rfl rfl (by rw [hb5]; rfl) (qgF (d0 := 46) rfl rfl (by rw [hb5]; rfl) (qgF (d0 := 46) rfl rfl (by rw [hb5]; rfl) (qgF (d0 := 46) rfl rfl (by rw [hb5]; rfl) (qgF (d0 := 46) rfl rfl (by rw [hb5]; rfl) (qgF (d0 := 46) rfl rfl (by rw [hb5]; rfl) (qgF (d0 := 46) rfl rfl (by rw [hb5]; rfl) (qgF (d0 := 46) rfl rfl (by rw [hb5]; rfl) (qgF (d0 := 46) rfl rfl (by rw [hb5]; rfl) (qgF (d0 := 46) rfl rfl (by rw [hb5]; rfl) (qgF (d0 := 46) rfl rfl (by rw [hb5]; rfl) (qpkf rfl hb5 rfl (qn fun w6 T6 i6 => ?_))))))))))))
          have hI1 := hI1.call i6 (fun _ h => h.elim)
          have h1 := h1.mono i6.imm
          refine t_then ?_
          refine cnd (b := false) rfl (fun h => nomatch h) (fun _ => ?_)
          refine skp (t_blk (t_thenR [(0, .slice a1 (List.length p0) c1), (3, .int .i64 x1), (47, undef), (48, undef), (49, undef), (50, undef), (51, undef), (52, undef), (53, undef), (54, undef), (55, undef), (56, undef), (57, undef)] ⟨rfl, rfl, rfl, rfl, rfl, rfl, rfl, rfl, rfl, rfl, rfl, rfl, rfl, trivial⟩ fun J => ?_))
          cases hm
          exact rg (mi rfl (ib rfl rfl rfl (zi rfl (nil (t_then ⟨m1, Nat.lt_succ_self _, _, _, _, env_has ⟨rfl, rfl, trivial⟩, hI1, hn1⟩)))))
  · have hm := cfalse hb1 hm
    cases hm
    have hn1 : _ = Lp.brk _ := hn1
    subst hn1
    have hm := thn_brk hq1
    have hI0 := hI0.trans hI1
    refine xt (x_then (x_then (x_eq (t_thenR [] trivial fun J => ?_))))
    refine sq2 ?_
    refine rg (zb rfl (nil (t_then ?_)))
    cases hm
    exact rtn (ret1 rfl rfl ⟨_, rfl, _, hI0, rfl⟩)

set_option maxRecDepth 100000 in
set_option maxHeartbeats 1000000 in
theorem ref04_Begins_sim {T0 : Nat → Prop} {w0 : World} {p0 : List Record} {a1 : Option Addr} {c1 : Nat} {p1 : List Int} {a2 : Option Addr} {c2 : Nat} {r : Bool} (hT : Bd T0 w0) (h1 : SlR rRecord T0 w0 (.slice a1 (List.length p0) c1) p0) (h2 : SlR (rInt .u32) T0 w0 (.slice a2 (List.length p1) c2) p1) (hm : ref04_Begins p0 p1 = some r) :
    Calls Try.prog 15 #[.slice a1 (List.length p0) c1, .slice a2 (List.length p1) c2] w0 (Ret noB T0 w0 fun _ _ v => v = .bool r) := by
  refine enter (args := [.slice a1 (List.length p0) c1, .slice a2 (List.length p1) c2]) Try.func15 rfl Try.ntmps15 rfl fun J => ?_
  have hI0 := Inn.refl (B := w0.heap.size) (M := noB) hT (Nat.le_refl _)
  unfold ref04_Begins at hm
  refine sq2 ?_
  refine rg (zb rfl (nil (t_then ?_)))
  refine sq2 ?_
  obtain ⟨y1, hx1, hm⟩ := bindS hm
  refine rg (ms rfl (cal cf10 (ref04_First_sim hI0.lt h1 hx1) rfl fun v1 T1 w1 i1 rv1 => ?_))
  have hI0 := hI0.call i1 (fun _ h => h.elim)
  have h1 := h1.mono i1.imm
  have h2 := h2.mono i1.imm
  obtain ⟨a3, c3, rfl⟩ := rv1.shape
  have h3 := rv1
  refine zs rfl (nil (t_then ?_))
  refine sq2 ?_
  refine sq2 ?_
  refine rg (zi rfl (nil (t_then ?_)))
  obtain ⟨o1, ho1, hq1⟩ := bindS hm
  obtain ⟨bd1, hbd1, ho1⟩ := loop_open ho1
  refine blk (wp_loop_ghost (fun m a w2 => ∃ (J : Nat → Value) (T2 : Nat → Prop) (x1 : Int), a = env 33 J [(0, .slice a1 (List.length p0) c1), (1, .slice a2 (List.length p1) c2), (5, .slice a3 (List.length y1) c3), (6, .int .i64 x1)] ∧ Inn w0.heap.size noB T1 w1 T2 w2 ∧ loopM bd1 m x1 = some o1) NN ⟨_, _, _, env_has ⟨rfl, rfl, rfl, rfl, trivial⟩, Inn.refl hI0.lt hI0.le, ho1⟩ ?_)
  rintro m _ w2 ⟨J, T2, x1, rfl, hI1, ho1⟩
  have h1 := h1.mono hI1.imm
  have h2 := h2.mono hI1.imm
  have h3 := h3.mono hI1.imm
  obtain ⟨m1, z1, rfl, hm, hn1⟩ := loop_round ho1
  rw [hbd1] at hm
  refine sq2 ?_
  refine sq2 ?_
  refine rg (mi rfl (ms rfl (ln rfl Try.underlying24 (ib rfl rfl rfl (nil (t_then ?_))))))
  refine cnd rfl (fun hb1 => ?_) (fun hb1 => ?_)
  · have hm := ctrue hb1 hm
    refine skp (t_then ?_)
    refine sq2 ?_
    refine blk ?_
    refine sq2 ?_
    refine rq mix (by kernel_rfl) hI1.lt (qmi rfl (qms rfl (qln rfl Try.underlying28 (qib rfl rfl rfl (qmb rfl (?_))))))
    rcases Bool.eq_false_or_eq_true (decide ((List.length p1 : Int) ≤ x1)) with hb2 | hb2
    · have hm := ctrue hb2 hm
      refine qgF (d0 := 19) rfl rfl (by rw [hb2]; rfl) (qgF (d0 := 19) rfl rfl (by rw [hb2]; rfl) (qgF (d0 := 19) rfl rfl (by rw [hb2]; rfl) (qgF (d0 := 19) rfl rfl (by rw [hb2]; rfl) (qgF (d0 := 19) rfl rfl (by rw [hb2]; rfl) (qgF (d0 := 19) rfl rfl (by rw [hb2]; rfl) (qgF (d0 := 19) rfl rfl (by rw [hb2]; rfl) (qgF (d0 := 19) rfl rfl (by rw [hb2]; rfl) (qgF (d0 := 19) rfl rfl (by rw [hb2]; rfl) (qgF (d0 := 19) rfl rfl (by rw [hb2]; rfl) (qpkt rfl hb2 rfl (qn fun w4 T4 i4 => ?_)))))))))))
      have hI1 := hI1.call i4 (fun _ h => h.elim)
      have h1 := h1.mono i4.imm
      have h2 := h2.mono i4.imm
      have h3 := h3.mono i4.imm
      refine t_thenR [(0, .slice a1 (List.length p0) c1), (1, .slice a2 (List.length p1) c2), (5, .slice a3 (List.length y1) c3), (6, .int .i64 x1), (20, undef), (21, undef), (22, undef), (23, undef), (24, undef), (25, undef), (26, undef), (27, undef), (28, undef), (29, undef), (30, .bool true)] ⟨rfl, rfl, rfl, rfl, rfl, rfl, rfl, rfl, rfl, rfl, rfl, rfl, rfl, rfl, rfl, trivial⟩ fun J => ?_
      refine cnd (b := true) rfl (fun _ => ?_) (fun h => nomatch h)
      refine sq2 ?_
      refine rg (zb rfl (nil (t_thenR [(4, .bool false)] ⟨rfl, trivial⟩ fun J => ?_)))
      have hIr := hI0.trans hI1
      cases hm
      have hn1 : _ = Lp.ret _ := hn1
      subst hn1
      have hm := thn_ret hq1
      cases hm
      exact rtn (r_blk (r_then (r_then (r_blk (r_then (ret1 rfl rfl ⟨_, rfl, _, hIr, rfl⟩))))))
    · have hm := cfalse hb2 hm
      obtain ⟨u1, hx2, hm⟩ := bindS hm
      refine qgT (d0 := 19) rfl rfl hb2 (qms rfl (qgT (d0 := 19) rfl rfl hb2 (qmi rfl (qgT (d0 := 19) rfl rfl hb2 (qixR rfl rfl h3 hx2 Try.underlying24 Try.sizeOf35 rfl fun b1 of1 cs1 hr1 hc1 => ?_)))))
      cases rRecord_open hr1
      obtain ⟨u2, hx3, hm⟩ := bindS hm
      refine qgT (d0 := 19) rfl rfl hb2 (qfa rfl Try.underlying35 rfl Try.sizeOf33 rfl (qgT (d0 := 19) rfl rfl hb2 (qld rfl Try.isAgg33 (hc1.get (j := 1) rfl) (qgT (d0 := 19) rfl rfl hb2 (qms rfl (qgT (d0 := 19) rfl rfl hb2 (qmi rfl (qgT (d0 := 19) rfl rfl hb2 (qixR rfl rfl h2 hx3 Try.underlying28 Try.sizeOf33 rfl fun b2 of2 cs2 hr2 hc2 => ?_)))))))))
      cases hr2
      refine qgT (d0 := 19) rfl rfl hb2 (qld rfl Try.isAgg33 (hc2.get (j := 0) rfl) (qgT (d0 := 19) rfl rfl hb2 (qib rfl rfl rfl (qpkf rfl hb2 rfl (qn fun w3 T3 i3 => ?_)))))
      have hI1 := hI1.call i3 (fun _ h => h.elim)
      have h1 := h1.mono i3.imm
      have h2 := h2.mono i3.imm
      have h3 := h3.mono i3.imm
      refine t_thenR [(0, .slice a1 (List.length p0) c1), (1, .slice a2 (List.length p1) c2), (5, .slice a3 (List.length y1) c3), (6, .int .i64 x1), (20, .slice a3 (List.length y1) c3), (21, .int .i64 x1), (24, .int .u32 u1.Val), (25, .slice a2 (List.length p1) c2), (26, .int .i64 x1), (28, .int .u32 u2), (29, .bool (u1.Val != u2)), (30, .bool (u1.Val != u2))] ⟨rfl, rfl, rfl, rfl, rfl, rfl, rfl, rfl, rfl, rfl, rfl, rfl, trivial⟩ fun J => ?_
      refine cnd rfl (fun hb3 => ?_) (fun hb3 => ?_)
      · have hm := ctrue hb3 hm
        refine sq2 ?_
        refine rg (zb rfl (nil (t_thenR [(4, .bool false)] ⟨rfl, trivial⟩ fun J => ?_)))
        have hIr := hI0.trans hI1
        cases hm
        have hn1 : _ = Lp.ret _ := hn1
        subst hn1
        have hm := thn_ret hq1
        cases hm
        exact rtn (r_blk (r_then (r_then (r_blk (r_then (ret1 rfl rfl ⟨_, rfl, _, hIr, rfl⟩))))))
      · have hm := cfalse hb3 hm
        refine skp (t_blk (t_then ?_))
        cases hm
        exact rg (mi rfl (ib rfl rfl rfl (zi rfl (nil (t_then ⟨m1, Nat.lt_succ_self _, _, _, _, env_has ⟨rfl, rfl, rfl, rfl, trivial⟩, hI1, hn1⟩)))))
  · have hm := cfalse hb1 hm
    cases hm
    have hn1 : _ = Lp.brk _ := hn1
    subst hn1
    have hm := thn_brk hq1
    have hI0 := hI0.trans hI1
    refine xt (x_then (x_then (x_eq (t_thenR [(0, .slice a1 (List.length p0) c1)] ⟨rfl, trivial⟩ fun J => ?_))))
    refine sq2 ?_
    obtain ⟨y2, hx4, hm⟩ := bindS hm
    refine rg (ms rfl (cal cf14 (ref04_Orderly_sim hI0.lt h1 hx4) rfl fun v2 T5 w5 i5 rv2 => ?_))
    have hI0 := hI0.call i5 (fun _ h => h.elim)
    subst rv2
    refine zb rfl (nil (t_then ?_))
    cases hm
    exact rtn (ret1 rfl rfl ⟨_, rfl, _, hI0, rfl⟩)

set_option maxRecDepth 100000 in
set_option maxHeartbeats 1000000 in
theorem record_Begins_sim {T0 : Nat → Prop} {w0 : World} {p0 : List Record} {a1 : Option Addr} {c1 : Nat} {p1 : List Int} {a2 : Option Addr} {c2 : Nat} {r : Bool} (hT : Bd T0 w0) (h1 : SlR rRecord T0 w0 (.slice a1 (List.length p0) c1) p0) (h2 : SlR (rInt .u32) T0 w0 (.slice a2 (List.length p1) c2) p1) (hm : record_Begins p0 p1 = some r) :
    Calls Try.prog 16 #[.slice a1 (List.length p0) c1, .slice a2 (List.length p1) c2] w0 (Ret noB T0 w0 fun _ _ v => v = .bool r) := by
  refine enter (args := [.slice a1 (List.length p0) c1, .slice a2 (List.length p1) c2]) Try.func16 rfl Try.ntmps16 rfl fun J => ?_
  have hI0 := Inn.refl (B := w0.heap.size) (M := noB) hT (Nat.le_refl _)
  unfold record_Begins at hm
  refine sq2 ?_
  refine rg (zb rfl (nil (t_then ?_)))
  refine sq2 ?_
  obtain ⟨y1, hx1, hm⟩ := bindS hm
  refine rg (ms rfl (cal cf11 (record_Values_sim hI0.lt h1 hx1) rfl fun v1 T1 w1 i1 rv1 => ?_))
  have hI0 := hI0.call i1 (fun _ h => h.elim)
  have h1 := h1.mono i1.imm
  have h2 := h2.mono i1.imm
  obtain ⟨a3, c3, rfl⟩ := rv1.shape
  have h3 := rv1
  refine zs rfl (nil (t_then ?_))
  refine sq2 ?_
  refine sq2 ?_
  obtain ⟨y2, hx2, hm⟩ := bindS hm
  refine rg (ms rfl (cal cf13 (record_Orderly_sim hI0.lt h1 hx2) rfl fun v2 T2 w2 i2 rv2 => ?_))
  have hI0 := hI0.call i2 (fun _ h => h.elim)
  have h2 := h2.mono i2.imm
  have h3 := h3.mono i2.imm
  subst rv2
  refine nt rfl (mb rfl (?_))
  rcases Bool.eq_false_or_eq_true (!y2) with hb1 | hb1
  · have hm := ctrue hb1 hm
    refine gF (d0 := 12) rfl rfl (by rw [hb1]; rfl) (gF (d0 := 12) rfl rfl (by rw [hb1]; rfl) (gF (d0 := 12) rfl rfl (by rw [hb1]; rfl) (gF (d0 := 12) rfl rfl (by rw [hb1]; rfl) (gF (d0 := 12) rfl rfl (by rw [hb1]; rfl) (pkt rfl hb1 rfl (nil (t_thenR [(1, .slice a2 (List.length p1) c2), (5, .slice a3 (List.length y1) c3), (18, .bool true)] ⟨rfl, rfl, rfl, trivial⟩ fun J => ?_)))))))
    refine cnd (b := true) rfl (fun _ => ?_) (fun h => nomatch h)
    refine sq2 ?_
    refine rg (zb rfl (nil (t_then ?_)))
    cases hm
    exact rtn (r_then (ret1 rfl rfl ⟨_, rfl, _, hI0, rfl⟩))
  · have hm := cfalse hb1 hm
    refine gT (d0 := 12) rfl rfl hb1 (ms rfl (gT (d0 := 12) rfl rfl hb1 (ln rfl Try.underlying28 (gT (d0 := 12) rfl rfl hb1 (ms rfl (gT (d0 := 12) rfl rfl hb1 (ln rfl Try.underlying28 (gT (d0 := 12) rfl rfl hb1 (ib rfl rfl rfl (pkf rfl hb1 rfl (nil (t_thenR [(1, .slice a2 (List.length p1) c2), (5, .slice a3 (List.length y1) c3), (18, .bool (decide ((List.length p1 : Int) < (List.length y1 : Int))))] ⟨rfl, rfl, rfl, trivial⟩ fun J => ?_))))))))))))
    refine cnd rfl (fun hb2 => ?_) (fun hb2 => ?_)
    · have hm := ctrue hb2 hm
      refine sq2 ?_
      refine rg (zb rfl (nil (t_then ?_)))
      cases hm
      exact rtn (r_then (ret1 rfl rfl ⟨_, rfl, _, hI0, rfl⟩))
    · have hm := cfalse hb2 hm
      refine skp (t_then ?_)
      refine sq2 ?_
      refine sq2 ?_
      refine rg (ms rfl (ln rfl Try.underlying28 (mi rfl (nil (t_then ?_)))))
      obtain ⟨o1, ho1, hq1⟩ := bindS hm
      obtain ⟨bd1, hbd1, ho1⟩ := loop_open ho1
      refine blk (wp_loop_ghost (fun m a w3 => ∃ (J : Nat → Value) (T3 : Nat → Prop) (x1 : Int), a = env 34 J [(1, .slice a2 (List.length p1) c2), (5, .slice a3 (List.length y1) c3), (20, .int .i64 (List.length y1 : Int)), (21, .int .i64 x1)] ∧ Inn w0.heap.size noB T2 w2 T3 w3 ∧ loopM bd1 m x1 = some o1) NN ⟨_, _, _, env_has ⟨rfl, rfl, rfl, rfl, trivial⟩, Inn.refl hI0.lt hI0.le, ho1⟩ ?_)
      rintro m _ w3 ⟨J, T3, x1, rfl, hI1, ho1⟩
      have h2 := h2.mono hI1.imm
      have h3 := h3.mono hI1.imm
      obtain ⟨m1, z1, rfl, hm, hn1⟩ := loop_round ho1
      rw [hbd1] at hm
      refine sq2 ?_
      refine rg (ib rfl rfl rfl (nil (t_then ?_)))
      refine sq2 ?_
      refine cnd rfl (fun hb3 => ?_) (fun hb3 => ?_)
      · have hm := ctrue hb3 hm
        refine skp (t_then ?_)
        refine sq2 ?_
        refine blk ?_
        refine sq2 ?_
        refine rg (mi rfl (zi rfl (nil (t_then ?_))))
        refine sq2 ?_
        obtain ⟨u1, hx3, hm⟩ := bindS hm
        refine rq mix (by kernel_rfl) hI1.lt (qms rfl (qmi rfl (qixR rfl rfl h3 hx3 Try.underlying28 Try.sizeOf33 rfl fun b1 of1 cs1 hr1 hc1 => ?_)))
        cases hr1
        obtain ⟨u2, hx4, hm⟩ := bindS hm
        refine qld rfl Try.isAgg33 (hc1.get (j := 0) rfl) (qms rfl (qmi rfl (qixR rfl rfl h2 hx4 Try.underlying28 Try.sizeOf33 rfl fun b2 of2 cs2 hr2 hc2 => ?_)))
        cases hr2
        refine qld rfl Try.isAgg33 (hc2.get (j := 0) rfl) (qib rfl rfl rfl (qn fun w4 T4 i4 => ?_))
        have hI1 := hI1.call i4 (fun _ h => h.elim)
        have h2 := h2.mono i4.imm
        have h3 := h3.mono i4.imm
        refine t_thenR [(1, .slice a2 (List.length p1) c2), (5, .slice a3 (List.length y1) c3), (20, .int .i64 (List.length y1 : Int)), (21, .int .i64 x1), (32, .bool (u1 != u2))] ⟨rfl, rfl, rfl, rfl, rfl, trivial⟩ fun J => ?_
        refine cnd rfl (fun hb4 => ?_) (fun hb4 => ?_)
        · have hm := ctrue hb4 hm
          refine sq2 ?_
          refine rg (zb rfl (nil (t_thenR [(4, .bool false)] ⟨rfl, trivial⟩ fun J => ?_)))
          have hIr := hI0.trans hI1
          cases hm
          have hn1 : _ = Lp.ret _ := hn1
          subst hn1
          have hm := thn_ret hq1
          cases hm
          exact rtn (r_blk (r_then (r_then (r_blk (r_then (ret1 rfl rfl ⟨_, rfl, _, hIr, rfl⟩))))))
        · have hm := cfalse hb4 hm
          refine skp (t_blk (t_then ?_))
          cases hm
          exact rg (ib rfl rfl rfl (mi rfl (nil (t_then ⟨m1, Nat.lt_succ_self _, _, _, _, env_has ⟨rfl, rfl, rfl, rfl, trivial⟩, hI1, hn1⟩))))
      · have hm := cfalse hb3 hm
        cases hm
        have hn1 : _ = Lp.brk _ := hn1
        subst hn1
        have hm := thn_brk hq1
        have hI0 := hI0.trans hI1
        refine xt (x_then (x_then (x_eq (t_thenR [] trivial fun J => ?_))))
        refine sq2 ?_
        refine rg (zb rfl (nil (t_then ?_)))
        cases hm
        exact rtn (ret1 rfl rfl ⟨_, rfl, _, hI0, rfl⟩)

set_option maxRecDepth 100000 in
set_option maxHeartbeats 1000000 in
theorem record_Whole_sim {T0 : Nat → Prop} {w0 : World} {p0 : List Record} {a1 : Option Addr} {c1 : Nat} {p1 : List Int} {a2 : Option Addr} {c2 : Nat} {r : Bool} (hT : Bd T0 w0) (h1 : SlR rRecord T0 w0 (.slice a1 (List.length p0) c1) p0) (h2 : SlR (rInt .u32) T0 w0 (.slice a2 (List.length p1) c2) p1) (hm : record_Whole p0 p1 = some r) :
    Calls Try.prog 17 #[.slice a1 (List.length p0) c1, .slice a2 (List.length p1) c2] w0 (Ret noB T0 w0 fun _ _ v => v = .bool r) := by
  refine enter (args := [.slice a1 (List.length p0) c1, .slice a2 (List.length p1) c2]) Try.func17 rfl Try.ntmps17 rfl fun J => ?_
  have hI0 := Inn.refl (B := w0.heap.size) (M := noB) hT (Nat.le_refl _)
  unfold record_Whole at hm
  refine sq2 ?_
  refine rg (zb rfl (nil (t_then ?_)))
  refine sq2 ?_
  obtain ⟨y1, hx1, hm⟩ := bindS hm
  refine rg (ms rfl (ms rfl (cal cf16 (record_Begins_sim hI0.lt h1 h2 hx1) rfl fun v1 T1 w1 i1 rv1 => ?_)))
  have hI0 := hI0.call i1 (fun _ h => h.elim)
  have h1 := h1.mono i1.imm
  have h2 := h2.mono i1.imm
  subst rv1
  refine mb rfl (?_)
  rcases Bool.eq_false_or_eq_true y1 with hb1 | hb1
  · have hm := ctrue hb1 hm
    obtain ⟨y2, hx2, hm⟩ := bindS hm
    refine gT (d0 := 8) rfl rfl hb1 (ms rfl (gT (d0 := 8) rfl rfl hb1 (cal cf11 (record_Values_sim hI0.lt h1 hx2) rfl fun v2 T2 w2 i2 rv2 => ?_)))
    have hI0 := hI0.call i2 (fun _ h => h.elim)
    have h2 := h2.mono i2.imm
    obtain ⟨a3, c3, rfl⟩ := rv2.shape
    have h3 := rv2
    refine gT (d0 := 8) rfl rfl hb1 (ln rfl Try.underlying28 (gT (d0 := 8) rfl rfl hb1 (ms rfl (gT (d0 := 8) rfl rfl hb1 (ln rfl Try.underlying28 (gT (d0 := 8) rfl rfl hb1 (ib rfl rfl rfl (pkt rfl hb1 rfl (zb rfl (nil (t_thenR [(4, .bool ((List.length y2 : Int) == (List.length p1 : Int)))] ⟨rfl, trivial⟩ fun J => ?_)))))))))))
    cases hm
    exact rtn (ret1 rfl rfl ⟨_, rfl, _, hI0, rfl⟩)
  · have hm := cfalse hb1 hm
    refine gF (d0 := 8) rfl rfl (by rw [hb1]; rfl) (gF (d0 := 8) rfl rfl (by rw [hb1]; rfl) (gF (d0 := 8) rfl rfl (by rw [hb1]; rfl) (gF (d0 := 8) rfl rfl (by rw [hb1]; rfl) (gF (d0 := 8) rfl rfl (by rw [hb1]; rfl) (gF (d0 := 8) rfl rfl (by rw [hb1]; rfl) (pkf rfl hb1 rfl (zb rfl (nil (t_thenR [(4, .bool false)] ⟨rfl, trivial⟩ fun J => ?_)))))))))
    cases hm
    exact rtn (ret1 rfl rfl ⟨_, rfl, _, hI0, rfl⟩)

set_option maxRecDepth 100000 in
set_option maxHeartbeats 1000000 in
theorem law04_awake_sim {T0 : Nat → Prop} {w0 : World}  {r : Bool} (hT : Bd T0 w0)  (hm : law04_awake = some r) :
    Calls Try.prog 7 #[] w0 (Ret noB T0 w0 fun _ _ v => v = .bool r) := by
  refine enter (args := []) Try.func7 rfl Try.ntmps7 rfl fun J => ?_
  have hI0 := Inn.refl (B := w0.heap.size) (M := noB) hT (Nat.le_refl _)
  unfold law04_awake at hm
  refine sq2 ?_
  refine rg (zb rfl (nil (t_then ?_)))
  refine sq2 ?_
  refine rg (bd (by kernel_rfl) rfl (u := .agg #[.int .u32 0, .int .u32 7]) (bd (by kernel_rfl) rfl (u := .agg #[.int .u32 1, .int .u32 8]) (bd (by kernel_rfl) rfl (u := .agg #[.int .u32 0, .int .u32 7]) (bd (by kernel_rfl) rfl (u := .agg #[.int .u32 1, .int .u32 8]) (bd (by kernel_rfl) rfl (u := .agg #[.int .u32 2, .int .u32 9]) (bs (cs := [.int .u32 0, .int .u32 7, .int .u32 1, .int .u32 8, .int .u32 0, .int .u32 7, .int .u32 1, .int .u32 8, .int .u32 2, .int .u32 9]) Try.underlying22 Try.sizeOf38 Try.zeroValue38 rfl rfl (by kernel_rfl) rfl hI0.lt fun w1 b1 i1 bx1 ge1 nt1 => ?_))))))
  have gB1 : w0.heap.size ≤ b1 := Nat.le_trans hI0.le ge1
  have hI0 := hI0.call i1 (fun _ h => h.elim)
  have h1 : SlR rRecord (addT T0 b1) w1 (.slice (some ⟨b1, 0, none⟩) 5 5) ([(⟨0, 7⟩ : Record), (⟨1, 8⟩ : Record), (⟨0, 7⟩ : Record), (⟨1, 8⟩ : Record), (⟨2, 9⟩ : Record)]) := litR bx1 (css := [[.int .u32 0, .int .u32 7], [.int .u32 1, .int .u32 8], [.int .u32 0, .int .u32 7], [.int .u32 1, .int .u32 8], [.int .u32 2, .int .u32 9]]) rfl ⟨(rRecord_mk (x := (⟨0, 7⟩ : Record)) : rRecord.rp _ _ _ _), (rRecord_mk (x := (⟨1, 8⟩ : Record)) : rRecord.rp _ _ _ _), (rRecord_mk (x := (⟨0, 7⟩ : Record)) : rRecord.rp _ _ _ _), (rRecord_mk (x := (⟨1, 8⟩ : Record)) : rRecord.rp _ _ _ _), (rRecord_mk (x := (⟨2, 9⟩ : Record)) : rRecord.rp _ _ _ _), trivial⟩ rfl rfl
  have hI0 := addI hI0 bx1 gB1
  refine zs rfl (nil (t_then ?_))
  refine sq2 ?_
  obtain ⟨y1, hx1, hm⟩ := bindS hm
  refine rg (ms rfl (cal cf13 (record_Orderly_sim hI0.lt h1 hx1) rfl fun v1 T2 w2 i2 rv1 => ?_))
  have hI0 := hI0.call i2 (fun _ h => h.elim)
  have h1 := h1.mono i2.imm
  subst rv1
  refine mb rfl (?_)
  rcases Bool.eq_false_or_eq_true y1 with hb1 | hb1
  · have hm := ctrue hb1 hm
    obtain ⟨y2, hx2, hm⟩ := bindS hm
    refine gT (d0 := 10) rfl rfl hb1 (ms rfl (gT (d0 := 10) rfl rfl hb1 (cal cf9 (record_First_sim hI0.lt h1 hx2) rfl fun v2 T3 w3 i3 rv2 => ?_)))
    have hI0 := hI0.call i3 (fun _ h => h.elim)
    have h1 := h1.mono i3.imm
    obtain ⟨a1, c1, rfl⟩ := rv2.shape
    have h2 := rv2
    refine gT (d0 := 10) rfl rfl hb1 (ln rfl Try.underlying22 (gT (d0 := 10) rfl rfl hb1 (ib rfl rfl rfl (pkt rfl hb1 rfl (mb rfl (?_))))))
    rcases Bool.eq_false_or_eq_true ((List.length y2 : Int) == 3) with hb2 | hb2
    · have hm := ctrue hb2 hm
      obtain ⟨y3, hx3, hm⟩ := bindS hm
      refine gT (d0 := 16) rfl rfl hb2 (ms rfl (gT (d0 := 16) rfl rfl hb2 (cal cf12 (record_Replays_sim hI0.lt h1 hx3) rfl fun v3 T4 w4 i4 rv3 => ?_)))
      have hI0 := hI0.call i4 (fun _ h => h.elim)
      have h1 := h1.mono i4.imm
      subst rv3
      refine gT (d0 := 16) rfl rfl hb2 (ib rfl rfl rfl (pkt rfl hb2 rfl (mb rfl (?_))))
      rcases Bool.eq_false_or_eq_true (y3 == 2) with hb3 | hb3
      · have hm := ctrue hb3 hm
        refine gT (d0 := 21) rfl rfl hb3 (ms rfl (gT (d0 := 21) rfl rfl hb3 (bs (cs := [.int .u32 7, .int .u32 8, .int .u32 9]) Try.underlying28 Try.sizeOf33 Try.zeroValue33 rfl rfl (by kernel_rfl) rfl hI0.lt fun w5 b2 i5 bx2 ge2 nt2 => ?_)))
        have gB2 : w0.heap.size ≤ b2 := Nat.le_trans hI0.le ge2
        have hI0 := hI0.call i5 (fun _ h => h.elim)
        have h1 := h1.mono i5.imm
        have h3 : SlR (rInt .u32) (addT T4 b2) w5 (.slice (some ⟨b2, 0, none⟩) 3 3) ([7, 8, 9]) := litR bx2 (css := [[.int .u32 7], [.int .u32 8], [.int .u32 9]]) rfl ⟨rfl, rfl, rfl, trivial⟩ rfl rfl
        have hI0 := addI hI0 bx2 gB2
        have h1 := h1.mono (mimm (T' := addT T4 b2) fun _ h => .inl h)
        obtain ⟨y4, hx4, hm⟩ := bindS hm
        refine gT (d0 := 21) rfl rfl hb3 (cal cf17 (record_Whole_sim hI0.lt h1 h3 hx4) rfl fun v4 T6 w6 i6 rv4 => ?_)
        have hI0 := hI0.call i6 (fun _ h => h.elim)
        subst rv4
        refine pkt rfl hb3 rfl (mb rfl (?_))
        rcases Bool.eq_false_or_eq_true y4 with hb4 | hb4
        · have hm := ctrue hb4 hm
          refine gT (d0 := 26) rfl rfl hb4 (bd (by kernel_rfl) rfl (u := .agg #[.int .u32 0, .int .u32 0]) (gT (d0 := 26) rfl rfl hb4 (bd (by kernel_rfl) rfl (u := .agg #[.int .u32 2, .int .u32 0]) (gT (d0 := 26) rfl rfl hb4 (bs (cs := [.int .u32 0, .int .u32 0, .int .u32 2, .int .u32 0]) Try.underlying22 Try.sizeOf38 Try.zeroValue38 rfl rfl (by kernel_rfl) rfl hI0.lt fun w7 b3 i7 bx3 ge3 nt3 => ?_)))))
          have gB3 : w0.heap.size ≤ b3 := Nat.le_trans hI0.le ge3
          have hI0 := hI0.call i7 (fun _ h => h.elim)
          have h4 : SlR rRecord (addT T6 b3) w7 (.slice (some ⟨b3, 0, none⟩) 2 2) ([(⟨0, 0⟩ : Record), (⟨2, 0⟩ : Record)]) := litR bx3 (css := [[.int .u32 0, .int .u32 0], [.int .u32 2, .int .u32 0]]) rfl ⟨(rRecord_mk (x := (⟨0, 0⟩ : Record)) : rRecord.rp _ _ _ _), (rRecord_mk (x := (⟨2, 0⟩ : Record)) : rRecord.rp _ _ _ _), trivial⟩ rfl rfl
          have hI0 := addI hI0 bx3 gB3
          obtain ⟨y5, hx5, hm⟩ := bindS hm
          refine gT (d0 := 26) rfl rfl hb4 (cal cf13 (record_Orderly_sim hI0.lt h4 hx5) rfl fun v5 T8 w8 i8 rv5 => ?_)
          have hI0 := hI0.call i8 (fun _ h => h.elim)
          subst rv5
          refine gT (d0 := 26) rfl rfl hb4 (nt rfl (pkt rfl hb4 rfl (mb rfl (?_))))
          rcases Bool.eq_false_or_eq_true (!y5) with hb5 | hb5
          · have hm := ctrue hb5 hm
            refine gT (d0 := 33) rfl rfl hb5 (bd (by kernel_rfl) rfl (u := .agg #[.int .u32 0, .int .u32 1]) (gT (d0 := 33) rfl rfl hb5 (bd (by kernel_rfl) rfl (u := .agg #[.int .u32 0, .int .u32 2]) (gT (d0 := 33) rfl rfl hb5 (bs (cs := [.int .u32 0, .int .u32 1, .int .u32 0, .int .u32 2]) Try.underlying22 Try.sizeOf38 Try.zeroValue38 rfl rfl (by kernel_rfl) rfl hI0.lt fun w9 b4 i9 bx4 ge4 nt4 => ?_)))))
            have gB4 : w0.heap.size ≤ b4 := Nat.le_trans hI0.le ge4
            have hI0 := hI0.call i9 (fun _ h => h.elim)
            have h5 : SlR rRecord (addT T8 b4) w9 (.slice (some ⟨b4, 0, none⟩) 2 2) ([(⟨0, 1⟩ : Record), (⟨0, 2⟩ : Record)]) := litR bx4 (css := [[.int .u32 0, .int .u32 1], [.int .u32 0, .int .u32 2]]) rfl ⟨(rRecord_mk (x := (⟨0, 1⟩ : Record)) : rRecord.rp _ _ _ _), (rRecord_mk (x := (⟨0, 2⟩ : Record)) : rRecord.rp _ _ _ _), trivial⟩ rfl rfl
            have hI0 := addI hI0 bx4 gB4
            obtain ⟨y6, hx6, hm⟩ := bindS hm
            refine gT (d0 := 33) rfl rfl hb5 (cal cf13 (record_Orderly_sim hI0.lt h5 hx6) rfl fun v6 T10 w10 i10 rv6 => ?_)
            have hI0 := hI0.call i10 (fun _ h => h.elim)
            subst rv6
            refine gT (d0 := 33) rfl rfl hb5 (nt rfl (pkt rfl hb5 rfl (zb rfl (nil (t_thenR [(0, .bool (!y6))] ⟨rfl, trivial⟩ fun J => ?_)))))
            cases hm
            exact rtn (ret1 rfl rfl ⟨_, rfl, _, hI0, rfl⟩)
          · have hm := cfalse hb5 hm
            refine gF (d0 := 33) rfl rfl (by rw [hb5]; rfl) (gF (d0 := 33) rfl rfl (by rw [hb5]; rfl) (gF (d0 := 33) rfl rfl (by rw [hb5]; rfl) (gF (d0 := 33) rfl rfl (by rw [hb5]; rfl) (gF (d0 := 33) rfl rfl (by rw [hb5]; rfl) (pkf rfl hb5 rfl (zb rfl (nil (t_thenR [(0, .bool false)] ⟨rfl, trivial⟩ fun J => ?_))))))))
            cases hm
            exact rtn (ret1 rfl rfl ⟨_, rfl, _, hI0, rfl⟩)
        · have hm := cfalse hb4 hm
          refine gF (d0 := 26) rfl rfl (by rw [hb4]; rfl) (gF (d0 := 26) rfl rfl (by rw [hb4]; rfl) (gF (d0 := 26) rfl rfl (by rw [hb4]; rfl) (gF (d0 := 26) rfl rfl (by rw [hb4]; rfl) (gF (d0 := 26) rfl rfl (by rw [hb4]; rfl) (pkf rfl hb4 rfl (mb rfl (gF (d0 := 33) rfl rfl rfl (gF (d0 := 33) rfl rfl rfl (gF (d0 := 33) rfl rfl rfl (gF (d0 := 33) rfl rfl rfl (gF (d0 := 33) rfl rfl rfl (pkf rfl rfl rfl (zb rfl (nil (t_thenR [(0, .bool false)] ⟨rfl, trivial⟩ fun J => ?_)))))))))))))))
          cases hm
          exact rtn (ret1 rfl rfl ⟨_, rfl, _, hI0, rfl⟩)
      · have hm := cfalse hb3 hm
        refine gF (d0 := 21) rfl rfl (by rw [hb3]; rfl) (gF (d0 := 21) rfl rfl (by rw [hb3]; rfl) (gF (d0 := 21) rfl rfl (by rw [hb3]; rfl) (pkf rfl hb3 rfl (mb rfl (gF (d0 := 26) rfl rfl rfl (gF (d0 := 26) rfl rfl rfl (gF (d0 := 26) rfl rfl rfl (gF (d0 := 26) rfl rfl rfl (gF (d0 := 26) rfl rfl rfl (pkf rfl rfl rfl (mb rfl (gF (d0 := 33) rfl rfl rfl (gF (d0 := 33) rfl rfl rfl (gF (d0 := 33) rfl rfl rfl (gF (d0 := 33) rfl rfl rfl (gF (d0 := 33) rfl rfl rfl (pkf rfl rfl rfl (zb rfl (nil (t_thenR [(0, .bool false)] ⟨rfl, trivial⟩ fun J => ?_))))))))))))))))))))
        cases hm
        exact rtn (ret1 rfl rfl ⟨_, rfl, _, hI0, rfl⟩)
    · have hm := cfalse hb2 hm
      refine gF (d0 := 16) rfl rfl (by rw [hb2]; rfl) (gF (d0 := 16) rfl rfl (by rw [hb2]; rfl) (gF (d0 := 16) rfl rfl (by rw [hb2]; rfl) (pkf rfl hb2 rfl (mb rfl (gF (d0 := 21) rfl rfl rfl (gF (d0 := 21) rfl rfl rfl (gF (d0 := 21) rfl rfl rfl (pkf rfl rfl rfl (mb rfl (gF (d0 := 26) rfl rfl rfl (gF (d0 := 26) rfl rfl rfl (gF (d0 := 26) rfl rfl rfl (gF (d0 := 26) rfl rfl rfl (gF (d0 := 26) rfl rfl rfl (pkf rfl rfl rfl (mb rfl (gF (d0 := 33) rfl rfl rfl (gF (d0 := 33) rfl rfl rfl (gF (d0 := 33) rfl rfl rfl (gF (d0 := 33) rfl rfl rfl (gF (d0 := 33) rfl rfl rfl (pkf rfl rfl rfl (zb rfl (nil (t_thenR [(0, .bool false)] ⟨rfl, trivial⟩ fun J => ?_)))))))))))))))))))))))))
      cases hm
      exact rtn (ret1 rfl rfl ⟨_, rfl, _, hI0, rfl⟩)
  · have hm := cfalse hb1 hm
    refine gF (d0 := 10) rfl rfl (by rw [hb1]; rfl) (gF (d0 := 10) rfl rfl (by rw [hb1]; rfl) (gF (d0 := 10) rfl rfl (by rw [hb1]; rfl) (gF (d0 := 10) rfl rfl (by rw [hb1]; rfl) (pkf rfl hb1 rfl (mb rfl (gF (d0 := 16) rfl rfl rfl (gF (d0 := 16) rfl rfl rfl (gF (d0 := 16) rfl rfl rfl (pkf rfl rfl rfl (mb rfl (gF (d0 := 21) rfl rfl rfl (gF (d0 := 21) rfl rfl rfl (gF (d0 := 21) rfl rfl rfl (pkf rfl rfl rfl (mb rfl (gF (d0 := 26) rfl rfl rfl (gF (d0 := 26) rfl rfl rfl (gF (d0 := 26) rfl rfl rfl (gF (d0 := 26) rfl rfl rfl (gF (d0 := 26) rfl rfl rfl (pkf rfl rfl rfl (mb rfl (gF (d0 := 33) rfl rfl rfl (gF (d0 := 33) rfl rfl rfl (gF (d0 := 33) rfl rfl rfl (gF (d0 := 33) rfl rfl rfl (gF (d0 := 33) rfl rfl rfl (pkf rfl rfl rfl (zb rfl (nil (t_thenR [(0, .bool false)] ⟨rfl, trivial⟩ fun J => ?_)))))))))))))))))))))))))))))))
    cases hm
    exact rtn (ret1 rfl rfl ⟨_, rfl, _, hI0, rfl⟩)

set_option maxRecDepth 100000 in
set_option maxHeartbeats 1000000 in
theorem law04_RecordFirsts_sim {T0 : Nat → Prop} {w0 : World} {p0 : List Record} {a1 : Option Addr} {c1 : Nat} {r : Bool} (hT : Bd T0 w0) (h1 : SlR rRecord T0 w0 (.slice a1 (List.length p0) c1) p0) (hm : law04_RecordFirsts p0 = some r) :
    Calls Try.prog 3 #[.slice a1 (List.length p0) c1] w0 (Ret noB T0 w0 fun _ _ v => v = .bool r) := by
  refine enter (args := [.slice a1 (List.length p0) c1]) Try.func3 rfl Try.ntmps3 rfl fun J => ?_
  have hI0 := Inn.refl (B := w0.heap.size) (M := noB) hT (Nat.le_refl _)
  unfold law04_RecordFirsts at hm
  refine sq2 ?_
  refine rg (zb rfl (nil (t_then ?_)))
  refine sq2 ?_
  refine sq2 ?_
  refine rg (ms rfl (ln rfl Try.underlying22 (ib rfl rfl rfl (nil (t_then ?_)))))
  refine cnd rfl (fun hb1 => ?_) (fun hb1 => ?_)
  · have hm := ctrue hb1 hm
    refine sq2 ?_
    obtain ⟨y1, hx1, hm⟩ := bindS hm
    refine rg (cal cf7 (law04_awake_sim hI0.lt hx1) rfl fun v1 T1 w1 i1 rv1 => ?_)
    have hI0 := hI0.call i1 (fun _ h => h.elim)
    subst rv1
    refine zb rfl (nil (t_thenR [(2, .bool y1)] ⟨rfl, trivial⟩ fun J => ?_))
    cases hm
    exact rtn (r_then (ret1 rfl rfl ⟨_, rfl, _, hI0, rfl⟩))
  · have hm := cfalse hb1 hm
    refine skp (t_then ?_)
    refine sq2 ?_
    obtain ⟨y2, hx2, hm⟩ := bindS hm
    refine rg (ms rfl (cal cf8 (law04_Ref_sim hI0.lt h1 hx2) rfl fun v2 T2 w2 i2 rv2 => ?_))
    have hI0 := hI0.call i2 (fun _ h => h.elim)
    have h1 := h1.mono i2.imm
    obtain ⟨a2, c2, rfl⟩ := rv2.shape
    have h2 := rv2
    refine zs rfl (nil (t_then ?_))
    refine sq2 ?_
    obtain ⟨y3, hx3, hm⟩ := bindS hm
    refine rg (ms rfl (cal cf9 (record_First_sim hI0.lt h1 hx3) rfl fun v3 T3 w3 i3 rv3 => ?_))
    have hI0 := hI0.call i3 (fun _ h => h.elim)
    have h1 := h1.mono i3.imm
    have h2 := h2.mono i3.imm
    obtain ⟨a3, c3, rfl⟩ := rv3.shape
    have h3 := rv3
    obtain ⟨y4, hx4, hm⟩ := bindS hm
    refine cal cf8 (law04_Ref_sim hI0.lt h3 hx4) rfl fun v4 T4 w4 i4 rv4 => ?_
    have hI0 := hI0.call i4 (fun _ h => h.elim)
    have h1 := h1.mono i4.imm
    have h2 := h2.mono i4.imm
    obtain ⟨a4, c4, rfl⟩ := rv4.shape
    have h4 := rv4
    obtain ⟨y5, hx5, hm⟩ := bindS hm
    refine ms rfl (cal cf10 (ref04_First_sim hI0.lt h2 hx5) rfl fun v5 T5 w5 i5 rv5 => ?_)
    have hI0 := hI0.call i5 (fun _ h => h.elim)
    have h1 := h1.mono i5.imm
    have h4 := h4.mono i5.imm
    have h2 := h2.mono i5.imm
    obtain ⟨a5, c5, rfl⟩ := rv5.shape
    have h5 := rv5
    obtain ⟨y6, hx6, hm⟩ := bindS hm
    refine ms rfl (cal cf11 (record_Values_sim hI0.lt h1 hx6) rfl fun v6 T6 w6 i6 rv6 => ?_)
    have hI0 := hI0.call i6 (fun _ h => h.elim)
    have h1 := h1.mono i6.imm
    have h4 := h4.mono i6.imm
    have h5 := h5.mono i6.imm
    have h2 := h2.mono i6.imm
    obtain ⟨a6, c6, rfl⟩ := rv6.shape
    have h6 := rv6
    refine zs rfl (zs rfl (zs rfl (nil (t_then ?_))))
    refine sq2 ?_
    refine sq2 ?_
    refine rg (ms rfl (ln rfl Try.underlying24 (ms rfl (ln rfl Try.underlying24 (ib rfl rfl rfl (mb rfl (?_)))))))
    rcases Bool.eq_false_or_eq_true ((List.length y4 : Int) != (List.length y5 : Int)) with hb2 | hb2
    · have hm := ctrue hb2 hm
      refine gF (d0 := 26) rfl rfl (by rw [hb2]; rfl) (gF (d0 := 26) rfl rfl (by rw [hb2]; rfl) (gF (d0 := 26) rfl rfl (by rw [hb2]; rfl) (gF (d0 := 26) rfl rfl (by rw [hb2]; rfl) (gF (d0 := 26) rfl rfl (by rw [hb2]; rfl) (pkt rfl hb2 rfl (mb rfl (gF (d0 := 33) rfl rfl rfl (gF (d0 := 33) rfl rfl rfl (gF (d0 := 33) rfl rfl rfl (gF (d0 := 33) rfl rfl rfl (gF (d0 := 33) rfl rfl rfl (gF (d0 := 33) rfl rfl rfl (gF (d0 := 33) rfl rfl rfl (gF (d0 := 33) rfl rfl rfl (pkt rfl rfl rfl (mb rfl (gF (d0 := 43) rfl rfl rfl (gF (d0 := 43) rfl rfl rfl (gF (d0 := 43) rfl rfl rfl (gF (d0 := 43) rfl rfl rfl (gF (d0 := 43) rfl rfl rfl (pkt rfl rfl rfl (nil (t_thenR [(4, .slice a4 (List.length y4) c4), (5, .slice a5 (List.length y5) c5), (6, .slice a6 (List.length y6) c6), (49, .bool true)] ⟨rfl, rfl, rfl, rfl, trivial⟩ fun J => ?_))))))))))))))))))))))))
      refine cnd (b := true) rfl (fun _ => ?_) (fun h => nomatch h)
      refine sq2 ?_
      refine rg (zb rfl (nil (t_then ?_)))
      cases hm
      exact rtn (r_then (ret1 rfl rfl ⟨_, rfl, _, hI0, rfl⟩))
    · have hm := cfalse hb2 hm
      refine gT (d0 := 26) rfl rfl hb2 (ms rfl (gT (d0 := 26) rfl rfl hb2 (ln rfl Try.underlying28 (gT (d0 := 26) rfl rfl hb2 (ms rfl (gT (d0 := 26) rfl rfl hb2 (ln rfl Try.underlying24 (gT (d0 := 26) rfl rfl hb2 (ib rfl rfl rfl (pkf rfl hb2 rfl (mb rfl (?_))))))))))))
      rcases Bool.eq_false_or_eq_true ((List.length y6 : Int) != (List.length y5 : Int)) with hb3 | hb3
      · have hm := ctrue hb3 hm
        refine gF (d0 := 33) rfl rfl (by rw [hb3]; rfl) (gF (d0 := 33) rfl rfl (by rw [hb3]; rfl) (gF (d0 := 33) rfl rfl (by rw [hb3]; rfl) (gF (d0 := 33) rfl rfl (by rw [hb3]; rfl) (gF (d0 := 33) rfl rfl (by rw [hb3]; rfl) (gF (d0 := 33) rfl rfl (by rw [hb3]; rfl) (gF (d0 := 33) rfl rfl (by rw [hb3]; rfl) (gF (d0 := 33) rfl rfl (by rw [hb3]; rfl) (pkt rfl hb3 rfl (mb rfl (gF (d0 := 43) rfl rfl rfl (gF (d0 := 43) rfl rfl rfl (gF (d0 := 43) rfl rfl rfl (gF (d0 := 43) rfl rfl rfl (gF (d0 := 43) rfl rfl rfl (pkt rfl rfl rfl (nil (t_thenR [(4, .slice a4 (List.length y4) c4), (5, .slice a5 (List.length y5) c5), (6, .slice a6 (List.length y6) c6), (49, .bool true)] ⟨rfl, rfl, rfl, rfl, trivial⟩ fun J => ?_)))))))))))))))))
        refine cnd (b := true) rfl (fun _ => ?_) (fun h => nomatch h)
        refine sq2 ?_
        refine rg (zb rfl (nil (t_then ?_)))
        cases hm
        exact rtn (r_then (ret1 rfl rfl ⟨_, rfl, _, hI0, rfl⟩))
      · have hm := cfalse hb3 hm
        obtain ⟨y7, hx7, hm⟩ := bindS hm
        refine gT (d0 := 33) rfl rfl hb3 (ms rfl (gT (d0 := 33) rfl rfl hb3 (cal cf12 (record_Replays_sim hI0.lt h1 hx7) rfl fun v7 T7 w7 i7 rv7 => ?_)))
        have hI0 := hI0.call i7 (fun _ h => h.elim)
        have h1 := h1.mono i7.imm
        have h2 := h2.mono i7.imm
        have h4 := h4.mono i7.imm
        have h5 := h5.mono i7.imm
        have h6 := h6.mono i7.imm
        subst rv7
        refine gT (d0 := 33) rfl rfl hb3 (ms rfl (gT (d0 := 33) rfl rfl hb3 (ln rfl Try.underlying22 (gT (d0 := 33) rfl rfl hb3 (ms rfl (gT (d0 := 33) rfl rfl hb3 (ln rfl Try.underlying24 (gT (d0 := 33) rfl rfl hb3 (ib rfl rfl rfl (gT (d0 := 33) rfl rfl hb3 (ib rfl rfl rfl (pkf rfl hb3 rfl (mb rfl (?_))))))))))))))
        rcases Bool.eq_false_or_eq_true (y7 != (IntKind.wrap .i64 ((List.length p0 : Int) - (List.length y5 : Int)))) with hb4 | hb4
        · have hm := ctrue hb4 hm
          refine gF (d0 := 43) rfl rfl (by rw [hb4]; rfl) (gF (d0 := 43) rfl rfl (by rw [hb4]; rfl) (gF (d0 := 43) rfl rfl (by rw [hb4]; rfl) (gF (d0 := 43) rfl rfl (by rw [hb4]; rfl) (gF (d0 := 43) rfl rfl (by rw [hb4]; rfl) (pkt rfl hb4 rfl (nil (t_thenR [(4, .slice a4 (List.length y4) c4), (5, .slice a5 (List.length y5) c5), (6, .slice a6 (List.length y6) c6), (49, .bool true)] ⟨rfl, rfl, rfl, rfl, trivial⟩ fun J => ?_)))))))
          refine cnd (b := true) rfl (fun _ => ?_) (fun h => nomatch h)
          refine sq2 ?_
          refine rg (zb rfl (nil (t_then ?_)))
          cases hm
          exact rtn (r_then (ret1 rfl rfl ⟨_, rfl, _, hI0, rfl⟩))
        · have hm := cfalse hb4 hm
          obtain ⟨y8, hx8, hm⟩ := bindS hm
          refine gT (d0 := 43) rfl rfl hb4 (ms rfl (gT (d0 := 43) rfl rfl hb4 (cal cf13 (record_Orderly_sim hI0.lt h1 hx8) rfl fun v8 T8 w8 i8 rv8 => ?_)))
          have hI0 := hI0.call i8 (fun _ h => h.elim)
          have h2 := h2.mono i8.imm
          have h4 := h4.mono i8.imm
          have h5 := h5.mono i8.imm
          have h6 := h6.mono i8.imm
          subst rv8
          obtain ⟨y9, hx9, hm⟩ := bindS hm
          refine gT (d0 := 43) rfl rfl hb4 (ms rfl (gT (d0 := 43) rfl rfl hb4 (cal cf14 (ref04_Orderly_sim hI0.lt h2 hx9) rfl fun v9 T9 w9 i9 rv9 => ?_)))
          have hI0 := hI0.call i9 (fun _ h => h.elim)
          have h4 := h4.mono i9.imm
          have h5 := h5.mono i9.imm
          have h6 := h6.mono i9.imm
          subst rv9
          refine gT (d0 := 43) rfl rfl hb4 (bn rfl rfl Try.underlying4 (pkf rfl hb4 rfl (nil (t_thenR [(4, .slice a4 (List.length y4) c4), (5, .slice a5 (List.length y5) c5), (6, .slice a6 (List.length y6) c6), (49, .bool (!(y8 == y9)))] ⟨rfl, rfl, rfl, rfl, trivial⟩ fun J => ?_))))
          refine cnd rfl (fun hb5 => ?_) (fun hb5 => ?_)
          · have hm := ctrue hb5 hm
            refine sq2 ?_
            refine rg (zb rfl (nil (t_then ?_)))
            cases hm
            exact rtn (r_then (ret1 rfl rfl ⟨_, rfl, _, hI0, rfl⟩))
          · have hm := cfalse hb5 hm
            refine skp (t_then ?_)
            refine sq2 ?_
            refine sq2 ?_
            refine rg (zi rfl (nil (t_then ?_)))
            obtain ⟨o1, ho1, hq1⟩ := bindS hm
            obtain ⟨bd1, hbd1, ho1⟩ := loop_open ho1
            refine blk (wp_loop_ghost (fun m a w10 => ∃ (J : Nat → Value) (T10 : Nat → Prop) (x1 : Int), a = env 78 J [(4, .slice a4 (List.length y4) c4), (5, .slice a5 (List.length y5) c5), (6, .slice a6 (List.length y6) c6), (7, .int .i64 x1)] ∧ Inn w0.heap.size noB T9 w9 T10 w10 ∧ loopM bd1 m x1 = some o1) NN ⟨_, _, _, env_has ⟨rfl, rfl, rfl, rfl, trivial⟩, Inn.refl hI0.lt hI0.le, ho1⟩ ?_)
            rintro m _ w10 ⟨J, T10, x1, rfl, hI1, ho1⟩
            have h4 := h4.mono hI1.imm
            have h5 := h5.mono hI1.imm
            have h6 := h6.mono hI1.imm
            obtain ⟨m1, z1, rfl, hm, hn1⟩ := loop_round ho1
            rw [hbd1] at hm
            refine sq2 ?_
            refine sq2 ?_
            refine rg (mi rfl (ms rfl (ln rfl Try.underlying24 (ib rfl rfl rfl (nil (t_then ?_))))))
            refine cnd rfl (fun hb6 => ?_) (fun hb6 => ?_)
            · have hm := ctrue hb6 hm
              refine skp (t_then ?_)
              refine sq2 ?_
              refine blk ?_
              refine sq2 ?_
              obtain ⟨u1, hx10, hm⟩ := bindS hm
              refine rq mix (by kernel_rfl) hI1.lt (qms rfl (qmi rfl (qixR rfl rfl h4 hx10 Try.underlying24 Try.sizeOf35 rfl fun b1 of1 cs1 hr1 hc1 => ?_)))
              cases rRecord_open hr1
              obtain ⟨u2, hx11, hm⟩ := bindS hm
              refine qldS rfl Try.isAgg35 Try.sizeOf35 rfl hc1 (cs := [.int .u32 u1.Seq, .int .u32 u1.Val]) (qms rfl (qmi rfl (qixR rfl rfl h5 hx11 Try.underlying24 Try.sizeOf35 rfl fun b2 of2 cs2 hr2 hc2 => ?_)))
              cases rRecord_open hr2
              refine qldS rfl Try.isAgg35 Try.sizeOf35 rfl hc2 (cs := [.int .u32 u2.Seq, .int .u32 u2.Val]) (qseqn rfl rfl (ne_35 u1.Seq u1.Val u2.Seq u2.Val) (qmb rfl (?_)))
              rcases Bool.eq_false_or_eq_true (!((u1.Seq == u2.Seq) && (u1.Val == u2.Val))) with hb7 | hb7
              · have hm := ctrue hb7 hm
                refine qgF (d0 := 65) rfl rfl (by rw [hb7]; rfl) (qgF (d0 := 65) rfl rfl (by rw [hb7]; rfl) (qgF (d0 := 65) rfl rfl (by rw [hb7]; rfl) (qgF (d0 := 65) rfl rfl (by rw [hb7]; rfl) (qgF (d0 := 65) rfl rfl (by rw [hb7]; rfl) (qgF (d0 := 65) rfl rfl (by rw [hb7]; rfl) (qgF (d0 := 65) rfl rfl (by rw [hb7]; rfl) (qgF (d0 := 65) rfl rfl (by rw [hb7]; rfl) (qgF (d0 := 65) rfl rfl (by rw [hb7]; rfl) (qgF (d0 := 65) rfl rfl (by rw [hb7]; rfl) (qpkt rfl hb7 rfl (qn fun w12 T12 i12 => ?_)))))))))))
                have hI1 := hI1.call i12 (fun _ h => h.elim)
                have h4 := h4.mono i12.imm
                have h5 := h5.mono i12.imm
                have h6 := h6.mono i12.imm
                refine t_thenR [(4, .slice a4 (List.length y4) c4), (5, .slice a5 (List.length y5) c5), (6, .slice a6 (List.length y6) c6), (7, .int .i64 x1), (66, undef), (67, undef), (68, undef), (69, undef), (70, undef), (71, undef), (72, undef), (73, undef), (74, undef), (75, undef), (76, .bool true)] ⟨rfl, rfl, rfl, rfl, rfl, rfl, rfl, rfl, rfl, rfl, rfl, rfl, rfl, rfl, rfl, trivial⟩ fun J => ?_
                refine cnd (b := true) rfl (fun _ => ?_) (fun h => nomatch h)
                refine sq2 ?_
                refine rg (zb rfl (nil (t_thenR [(2, .bool false)] ⟨rfl, trivial⟩ fun J => ?_)))
                have hIr := hI0.trans hI1
                cases hm
                have hn1 : _ = Lp.ret _ := hn1
                subst hn1
                have hm := thn_ret hq1
                cases hm
                exact rtn (r_blk (r_then (r_then (r_blk (r_then (ret1 rfl rfl ⟨_, rfl, _, hIr, rfl⟩))))))
              · have hm := cfalse hb7 hm
                obtain ⟨u3, hx12, hm⟩ := bindS hm
                refine qgT (d0 := 65) rfl rfl hb7 (qms rfl (qgT (d0 := 65) rfl rfl hb7 (qmi rfl (qgT (d0 := 65) rfl rfl hb7 (qixR rfl rfl h6 hx12 Try.underlying28 Try.sizeOf33 rfl fun b3 of3 cs3 hr3 hc3 => ?_)))))
                cases hr3
                obtain ⟨u4, hx13, hm⟩ := bindS hm
                refine qgT (d0 := 65) rfl rfl hb7 (qld rfl Try.isAgg33 (hc3.get (j := 0) rfl) (qgT (d0 := 65) rfl rfl hb7 (qms rfl (qgT (d0 := 65) rfl rfl hb7 (qmi rfl (qgT (d0 := 65) rfl rfl hb7 (qixR rfl rfl h5 hx13 Try.underlying24 Try.sizeOf35 rfl fun b4 of4 cs4 hr4 hc4 => ?_)))))))
                cases rRecord_open hr4
                refine qgT (d0 := 65) rfl rfl hb7 (qfa rfl Try.underlying35 rfl Try.sizeOf33 rfl (qgT (d0 := 65) rfl rfl hb7 (qld rfl Try.isAgg33 (hc4.get (j := 1) rfl) (qgT (d0 := 65) rfl rfl hb7 (qib rfl rfl rfl (qpkf rfl hb7 rfl (qn fun w11 T11 i11 => ?_)))))))
                have hI1 := hI1.call i11 (fun _ h => h.elim)
                have h4 := h4.mono i11.imm
                have h5 := h5.mono i11.imm
                have h6 := h6.mono i11.imm
                refine t_thenR [(4, .slice a4 (List.length y4) c4), (5, .slice a5 (List.length y5) c5), (6, .slice a6 (List.length y6) c6), (7, .int .i64 x1), (66, .slice a6 (List.length y6) c6), (67, .int .i64 x1), (69, .int .u32 u3), (70, .slice a5 (List.length y5) c5), (71, .int .i64 x1), (74, .int .u32 u4.Val), (75, .bool (u3 != u4.Val)), (76, .bool (u3 != u4.Val))] ⟨rfl, rfl, rfl, rfl, rfl, rfl, rfl, rfl, rfl, rfl, rfl, rfl, trivial⟩ fun J => ?_
                refine cnd rfl (fun hb8 => ?_) (fun hb8 => ?_)
                · have hm := ctrue hb8 hm
                  refine sq2 ?_
                  refine rg (zb rfl (nil (t_thenR [(2, .bool false)] ⟨rfl, trivial⟩ fun J => ?_)))
                  have hIr := hI0.trans hI1
                  cases hm
                  have hn1 : _ = Lp.ret _ := hn1
                  subst hn1
                  have hm := thn_ret hq1
                  cases hm
                  exact rtn (r_blk (r_then (r_then (r_blk (r_then (ret1 rfl rfl ⟨_, rfl, _, hIr, rfl⟩))))))
                · have hm := cfalse hb8 hm
                  refine skp (t_blk (t_then ?_))
                  cases hm
                  exact rg (mi rfl (ib rfl rfl rfl (zi rfl (nil (t_then ⟨m1, Nat.lt_succ_self _, _, _, _, env_has ⟨rfl, rfl, rfl, rfl, trivial⟩, hI1, hn1⟩)))))
            · have hm := cfalse hb6 hm
              cases hm
              have hn1 : _ = Lp.brk _ := hn1
              subst hn1
              have hm := thn_brk hq1
              have hI0 := hI0.trans hI1
              refine xt (x_then (x_then (x_eq (t_thenR [] trivial fun J => ?_))))
              refine sq2 ?_
              obtain ⟨y10, hx14, hm⟩ := bindS hm
              refine rg (cal cf7 (law04_awake_sim hI0.lt hx14) rfl fun v10 T13 w13 i13 rv10 => ?_)
              have hI0 := hI0.call i13 (fun _ h => h.elim)
              subst rv10
              refine zb rfl (nil (t_then ?_))
              cases hm
              exact rtn (ret1 rfl rfl ⟨_, rfl, _, hI0, rfl⟩)

set_option maxRecDepth 100000 in
set_option maxHeartbeats 1000000 in
theorem law04_RecordBegins_sim {T0 : Nat → Prop} {w0 : World} {p0 : List Record} {a1 : Option Addr} {c1 : Nat} {p1 : List Int} {a2 : Option Addr} {c2 : Nat} {r : Bool} (hT : Bd T0 w0) (h1 : SlR rRecord T0 w0 (.slice a1 (List.length p0) c1) p0) (h2 : SlR (rInt .u32) T0 w0 (.slice a2 (List.length p1) c2) p1) (hm : law04_RecordBegins p0 p1 = some r) :
    Calls Try.prog 4 #[.slice a1 (List.length p0) c1, .slice a2 (List.length p1) c2] w0 (Ret noB T0 w0 fun _ _ v => v = .bool r) := by
  refine enter (args := [.slice a1 (List.length p0) c1, .slice a2 (List.length p1) c2]) Try.func4 rfl Try.ntmps4 rfl fun J => ?_
  have hI0 := Inn.refl (B := w0.heap.size) (M := noB) hT (Nat.le_refl _)
  unfold law04_RecordBegins at hm
  refine sq2 ?_
  refine rg (zb rfl (nil (t_then ?_)))
  refine sq2 ?_
  refine sq2 ?_
  refine rg (ms rfl (ln rfl Try.underlying22 (ib rfl rfl rfl (mb rfl (?_)))))
  rcases Bool.eq_false_or_eq_true (decide (300 < (List.length p0 : Int))) with hb1 | hb1
  · have hm := ctrue hb1 hm
    refine gF (d0 := 10) rfl rfl (by rw [hb1]; rfl) (gF (d0 := 10) rfl rfl (by rw [hb1]; rfl) (gF (d0 := 10) rfl rfl (by rw [hb1]; rfl) (pkt rfl hb1 rfl (nil (t_then ?_)))))
    refine cnd (b := true) rfl (fun _ => ?_) (fun h => nomatch h)
    refine sq2 ?_
    obtain ⟨y8, hx8, hm⟩ := bindS hm
    refine rg (cal cf7 (law04_awake_sim hI0.lt hx8) rfl fun v8 T8 w8 i8 rv8 => ?_)
    have hI0 := hI0.call i8 (fun _ h => h.elim)
    subst rv8
    refine zb rfl (nil (t_thenR [(4, .bool y8)] ⟨rfl, trivial⟩ fun J => ?_))
    cases hm
    exact rtn (r_then (ret1 rfl rfl ⟨_, rfl, _, hI0, rfl⟩))
  · have hm := cfalse hb1 hm
    refine gT (d0 := 10) rfl rfl hb1 (ms rfl (gT (d0 := 10) rfl rfl hb1 (ln rfl Try.underlying28 (gT (d0 := 10) rfl rfl hb1 (ib rfl rfl rfl (pkf rfl hb1 rfl (nil (t_then ?_))))))))
    refine cnd rfl (fun hb2 => ?_) (fun hb2 => ?_)
    · have hm := ctrue hb2 hm
      refine sq2 ?_
      obtain ⟨y1, hx1, hm⟩ := bindS hm
      refine rg (cal cf7 (law04_awake_sim hI0.lt hx1) rfl fun v1 T1 w1 i1 rv1 => ?_)
      have hI0 := hI0.call i1 (fun _ h => h.elim)
      subst rv1
      refine zb rfl (nil (t_thenR [(4, .bool y1)] ⟨rfl, trivial⟩ fun J => ?_))
      cases hm
      exact rtn (r_then (ret1 rfl rfl ⟨_, rfl, _, hI0, rfl⟩))
    · have hm := cfalse hb2 hm
      refine skp (t_then ?_)
      refine sq2 ?_
      obtain ⟨y2, hx2, hm⟩ := bindS hm
      refine rg (ms rfl (cal cf8 (law04_Ref_sim hI0.lt h1 hx2) rfl fun v2 T2 w2 i2 rv2 => ?_))
      have hI0 := hI0.call i2 (fun _ h => h.elim)
      have h1 := h1.mono i2.imm
      have h2 := h2.mono i2.imm
      obtain ⟨a3, c3, rfl⟩ := rv2.shape
      have h3 := rv2
      refine zs rfl (nil (t_then ?_))
      refine sq2 ?_
      obtain ⟨y3, hx3, hm⟩ := bindS hm
      refine rg (ms rfl (ms rfl (cal cf15 (ref04_Begins_sim hI0.lt h3 h2 hx3) rfl fun v3 T3 w3 i3 rv3 => ?_)))
      have hI0 := hI0.call i3 (fun _ h => h.elim)
      have h1 := h1.mono i3.imm
      have h2 := h2.mono i3.imm
      have h3 := h3.mono i3.imm
      subst rv3
      refine zb rfl (nil (t_then ?_))
      refine sq2 ?_
      obtain ⟨y4, hx4, hm⟩ := bindS hm
      refine rg (cal cf7 (law04_awake_sim hI0.lt hx4) rfl fun v4 T4 w4 i4 rv4 => ?_)
      have hI0 := hI0.call i4 (fun _ h => h.elim)
      have h1 := h1.mono i4.imm
      have h2 := h2.mono i4.imm
      have h3 := h3.mono i4.imm
      subst rv4
      refine mb rfl (?_)
      rcases Bool.eq_false_or_eq_true y4 with hb3 | hb3
      · have hm := ctrue hb3 hm
        obtain ⟨y5, hx5, hm⟩ := bindS hm
        refine gT (d0 := 22) rfl rfl hb3 (ms rfl (gT (d0 := 22) rfl rfl hb3 (ms rfl (gT (d0 := 22) rfl rfl hb3 (cal cf16 (record_Begins_sim hI0.lt h1 h2 hx5) rfl fun v5 T5 w5 i5 rv5 => ?_)))))
        have hI0 := hI0.call i5 (fun _ h => h.elim)
        have h1 := h1.mono i5.imm
        have h2 := h2.mono i5.imm
        have h3 := h3.mono i5.imm
        subst rv5
        refine gT (d0 := 22) rfl rfl hb3 (mb rfl (gT (d0 := 22) rfl rfl hb3 (bq rfl rfl Try.underlying4 (pkt rfl hb3 rfl (mb rfl (?_))))))
        rcases Bool.eq_false_or_eq_true (y5 == y3) with hb4 | hb4
        · have hm := ctrue hb4 hm
          obtain ⟨y6, hx6, hm⟩ := bindS hm
          refine gT (d0 := 29) rfl rfl hb4 (ms rfl (gT (d0 := 29) rfl rfl hb4 (ms rfl (gT (d0 := 29) rfl rfl hb4 (cal cf17 (record_Whole_sim hI0.lt h1 h2 hx6) rfl fun v6 T6 w6 i6 rv6 => ?_)))))
          have hI0 := hI0.call i6 (fun _ h => h.elim)
          have h2 := h2.mono i6.imm
          have h3 := h3.mono i6.imm
          subst rv6
          refine gT (d0 := 29) rfl rfl hb4 (mb rfl (gT (d0 := 29) rfl rfl hb4 (mb rfl (?_))))
          rcases Bool.eq_false_or_eq_true y3 with hb5 | hb5
          · have hm := ctrue hb5 hm
            obtain ⟨y7, hx7, hm⟩ := bindS hm
            refine gT (d0 := 34) rfl rfl hb5 (ms rfl (gT (d0 := 34) rfl rfl hb5 (cal cf10 (ref04_First_sim hI0.lt h3 hx7) rfl fun v7 T7 w7 i7 rv7 => ?_)))
            have hI0 := hI0.call i7 (fun _ h => h.elim)
            have h2 := h2.mono i7.imm
            obtain ⟨a4, c4, rfl⟩ := rv7.shape
            have h4 := rv7
            refine gT (d0 := 34) rfl rfl hb5 (ln rfl Try.underlying24 (gT (d0 := 34) rfl rfl hb5 (ms rfl (gT (d0 := 34) rfl rfl hb5 (ln rfl Try.underlying28 (gT (d0 := 34) rfl rfl hb5 (ib rfl rfl rfl (gT (d0 := 29) rfl rfl hb4 (pkt rfl hb5 rfl (gT (d0 := 29) rfl rfl hb4 (bq rfl rfl Try.underlying4 (pkt rfl hb4 rfl (zb rfl (nil (t_thenR [(4, .bool (y6 == ((List.length y7 : Int) == (List.length p1 : Int))))] ⟨rfl, trivial⟩ fun J => ?_)))))))))))))))
            cases hm
            exact rtn (ret1 rfl rfl ⟨_, rfl, _, hI0, rfl⟩)
          · have hm := cfalse hb5 hm
            refine gF (d0 := 34) rfl rfl (by rw [hb5]; rfl) (gF (d0 := 34) rfl rfl (by rw [hb5]; rfl) (gF (d0 := 34) rfl rfl (by rw [hb5]; rfl) (gF (d0 := 34) rfl rfl (by rw [hb5]; rfl) (gF (d0 := 34) rfl rfl (by rw [hb5]; rfl) (gF (d0 := 34) rfl rfl (by rw [hb5]; rfl) (gT (d0 := 29) rfl rfl hb4 (pkf rfl hb5 rfl (gT (d0 := 29) rfl rfl hb4 (bq rfl rfl Try.underlying4 (pkt rfl hb4 rfl (zb rfl (nil (t_thenR [(4, .bool (y6 == false))] ⟨rfl, trivial⟩ fun J => ?_)))))))))))))
            cases hm
            exact rtn (ret1 rfl rfl ⟨_, rfl, _, hI0, rfl⟩)
        · have hm := cfalse hb4 hm
          refine gF (d0 := 29) rfl rfl (by rw [hb4]; rfl) (gF (d0 := 29) rfl rfl (by rw [hb4]; rfl) (gF (d0 := 29) rfl rfl (by rw [hb4]; rfl) (gF (d0 := 29) rfl rfl (by rw [hb4]; rfl) (gF (d0 := 29) rfl rfl (by rw [hb4]; rfl) (gU (d0 := 34) rfl rfl (gU (d0 := 34) rfl rfl (gU (d0 := 34) rfl rfl (gU (d0 := 34) rfl rfl (gU (d0 := 34) rfl rfl (gU (d0 := 34) rfl rfl (gF (d0 := 29) rfl rfl (by rw [hb4]; rfl) (gF (d0 := 29) rfl rfl (by rw [hb4]; rfl) (pkf rfl hb4 rfl (zb rfl (nil (t_thenR [(4, .bool false)] ⟨rfl, trivial⟩ fun J => ?_))))))))))))))))
          cases hm
          exact rtn (ret1 rfl rfl ⟨_, rfl, _, hI0, rfl⟩)
      · have hm := cfalse hb3 hm
        refine gF (d0 := 22) rfl rfl (by rw [hb3]; rfl) (gF (d0 := 22) rfl rfl (by rw [hb3]; rfl) (gF (d0 := 22) rfl rfl (by rw [hb3]; rfl) (gF (d0 := 22) rfl rfl (by rw [hb3]; rfl) (gF (d0 := 22) rfl rfl (by rw [hb3]; rfl) (pkf rfl hb3 rfl (mb rfl (gF (d0 := 29) rfl rfl rfl (gF (d0 := 29) rfl rfl rfl (gF (d0 := 29) rfl rfl rfl (gF (d0 := 29) rfl rfl rfl (gF (d0 := 29) rfl rfl rfl (gU (d0 := 34) rfl rfl (gU (d0 := 34) rfl rfl (gU (d0 := 34) rfl rfl (gU (d0 := 34) rfl rfl (gU (d0 := 34) rfl rfl (gU (d0 := 34) rfl rfl (gF (d0 := 29) rfl rfl rfl (gF (d0 := 29) rfl rfl rfl (pkf rfl rfl rfl (zb rfl (nil (t_thenR [(4, .bool false)] ⟨rfl, trivial⟩ fun J => ?_)))))))))))))))))))))))
        cases hm
        exact rtn (ret1 rfl rfl ⟨_, rfl, _, hI0, rfl⟩)

set_option maxRecDepth 100000 in
set_option maxHeartbeats 1000000 in
theorem law04_RecordNumbers_sim {T0 : Nat → Prop} {w0 : World} {p0 : List Record} {a1 : Option Addr} {c1 : Nat} {r : Bool} (hT : Bd T0 w0) (h1 : SlR rRecord T0 w0 (.slice a1 (List.length p0) c1) p0) (hm : law04_RecordNumbers p0 = some r) :
    Calls Try.prog 5 #[.slice a1 (List.length p0) c1] w0 (Ret noB T0 w0 fun _ _ v => v = .bool r) := by
  refine enter (args := [.slice a1 (List.length p0) c1]) Try.func5 rfl Try.ntmps5 rfl fun J => ?_
  have hI0 := Inn.refl (B := w0.heap.size) (M := noB) hT (Nat.le_refl _)
  unfold law04_RecordNumbers at hm
  refine sq2 ?_
  refine rg (zb rfl (nil (t_then ?_)))
  refine sq2 ?_
  refine sq2 ?_
  refine rg (ms rfl (ln rfl Try.underlying22 (ib rfl rfl rfl (mb rfl (?_)))))
  rcases Bool.eq_false_or_eq_true (decide (300 < (List.length p0 : Int))) with hb1 | hb1
  · have hm := ctrue hb1 hm
    refine gF (d0 := 8) rfl rfl (by rw [hb1]; rfl) (gF (d0 := 8) rfl rfl (by rw [hb1]; rfl) (gF (d0 := 8) rfl rfl (by rw [hb1]; rfl) (pkt rfl hb1 rfl (nil (t_thenR [(0, .slice a1 (List.length p0) c1), (12, .bool true)] ⟨rfl, rfl, trivial⟩ fun J => ?_)))))
    refine cnd (b := true) rfl (fun _ => ?_) (fun h => nomatch h)
    refine sq2 ?_
    obtain ⟨y5, hx6, hm⟩ := bindS hm
    refine rg (cal cf7 (law04_awake_sim hI0.lt hx6) rfl fun v5 T6 w6 i6 rv5 => ?_)
    have hI0 := hI0.call i6 (fun _ h => h.elim)
    subst rv5
    refine zb rfl (nil (t_then ?_))
    cases hm
    exact rtn (r_then (ret1 rfl rfl ⟨_, rfl, _, hI0, rfl⟩))
  · have hm := cfalse hb1 hm
    obtain ⟨y1, hx1, hm⟩ := bindS hm
    refine gT (d0 := 8) rfl rfl hb1 (ms rfl (gT (d0 := 8) rfl rfl hb1 (cal cf13 (record_Orderly_sim hI0.lt h1 hx1) rfl fun v1 T1 w1 i1 rv1 => ?_)))
    have hI0 := hI0.call i1 (fun _ h => h.elim)
    have h1 := h1.mono i1.imm
    subst rv1
    refine gT (d0 := 8) rfl rfl hb1 (nt rfl (pkf rfl hb1 rfl (nil (t_thenR [(0, .slice a1 (List.length p0) c1), (12, .bool (!y1))] ⟨rfl, rfl, trivial⟩ fun J => ?_))))
    refine cnd rfl (fun hb2 => ?_) (fun hb2 => ?_)
    · have hm := ctrue hb2 hm
      refine sq2 ?_
      obtain ⟨y2, hx2, hm⟩ := bindS hm
      refine rg (cal cf7 (law04_awake_sim hI0.lt hx2) rfl fun v2 T2 w2 i2 rv2 => ?_)
      have hI0 := hI0.call i2 (fun _ h => h.elim)
      subst rv2
      refine zb rfl (nil (t_then ?_))
      cases hm
      exact rtn (r_then (ret1 rfl rfl ⟨_, rfl, _, hI0, rfl⟩))
    · have hm := cfalse hb2 hm
      refine skp (t_then ?_)
      refine sq2 ?_
      obtain ⟨y3, hx3, hm⟩ := bindS hm
      refine rg (ms rfl (cal cf9 (record_First_sim hI0.lt h1 hx3) rfl fun v3 T3 w3 i3 rv3 => ?_))
      have hI0 := hI0.call i3 (fun _ h => h.elim)
      obtain ⟨a2, c2, rfl⟩ := rv3.shape
      have h2 := rv3
      refine zs rfl (nil (t_then ?_))
      refine sq2 ?_
      refine sq2 ?_
      refine rg (zi rfl (nil (t_then ?_)))
      obtain ⟨o1, ho1, hq1⟩ := bindS hm
      obtain ⟨bd1, hbd1, ho1⟩ := loop_open ho1
      refine blk (wp_loop_ghost (fun m a w4 => ∃ (J : Nat → Value) (T4 : Nat → Prop) (x1 : Int), a = env 31 J [(3, .slice a2 (List.length y3) c2), (4, .int .i64 x1)] ∧ Inn w0.heap.size noB T3 w3 T4 w4 ∧ loopM bd1 m x1 = some o1) NN ⟨_, _, _, env_has ⟨rfl, rfl, trivial⟩, Inn.refl hI0.lt hI0.le, ho1⟩ ?_)
      rintro m _ w4 ⟨J, T4, x1, rfl, hI1, ho1⟩
      have h2 := h2.mono hI1.imm
      obtain ⟨m1, z1, rfl, hm, hn1⟩ := loop_round ho1
      rw [hbd1] at hm
      refine sq2 ?_
      refine sq2 ?_
      refine rg (mi rfl (ms rfl (ln rfl Try.underlying22 (ib rfl rfl rfl (nil (t_then ?_))))))
      refine cnd rfl (fun hb3 => ?_) (fun hb3 => ?_)
      · have hm := ctrue hb3 hm
        refine skp (t_then ?_)
        refine sq2 ?_
        refine blk ?_
        refine sq2 ?_
        obtain ⟨u1, hx4, hm⟩ := bindS hm
        refine rg (ms rfl (mi rfl (ixR rfl rfl h2 hx4 Try.underlying22 Try.sizeOf38 rfl fun b1 of1 cs1 hr1 hc1 => ?_)))
        cases rRecord_open hr1
        refine fa rfl Try.underlying38 rfl Try.sizeOf33 rfl (ld rfl Try.isAgg33 (hc1.get (j := 0) rfl) (mi rfl (cv rfl Try.underlying3 Try.underlying33 (ib rfl rfl rfl (nil (t_thenR [(3, .slice a2 (List.length y3) c2), (4, .int .i64 x1), (29, .bool (u1.Seq != (IntKind.wrap .u32 x1)))] ⟨rfl, rfl, rfl, trivial⟩ fun J => ?_))))))
        refine cnd rfl (fun hb4 => ?_) (fun hb4 => ?_)
        · have hm := ctrue hb4 hm
          refine sq2 ?_
          refine rg (zb rfl (nil (t_then ?_)))
          have hIr := hI0.trans hI1
          cases hm
          have hn1 : _ = Lp.ret _ := hn1
          subst hn1
          have hm := thn_ret hq1
          cases hm
          exact rtn (r_blk (r_then (r_then (r_blk (r_then (ret1 rfl rfl ⟨_, rfl, _, hIr, rfl⟩))))))
        · have hm := cfalse hb4 hm
          refine skp (t_blk (t_then ?_))
          cases hm
          exact rg (mi rfl (ib rfl rfl rfl (zi rfl (nil (t_then ⟨m1, Nat.lt_succ_self _, _, _, _, env_has ⟨rfl, rfl, trivial⟩, hI1, hn1⟩)))))
      · have hm := cfalse hb3 hm
        cases hm
        have hn1 : _ = Lp.brk _ := hn1
        subst hn1
        have hm := thn_brk hq1
        have hI0 := hI0.trans hI1
        refine xt (x_then (x_then (x_eq (t_thenR [] trivial fun J => ?_))))
        refine sq2 ?_
        obtain ⟨y4, hx5, hm⟩ := bindS hm
        refine rg (cal cf7 (law04_awake_sim hI0.lt hx5) rfl fun v4 T5 w5 i5 rv4 => ?_)
        have hI0 := hI0.call i5 (fun _ h => h.elim)
        subst rv4
        refine zb rfl (nil (t_then ?_))
        cases hm
        exact rtn (ret1 rfl rfl ⟨_, rfl, _, hI0, rfl⟩)

set_option maxRecDepth 100000 in
set_option maxHeartbeats 1000000 in
theorem law04_RecordReplays_sim {T0 : Nat → Prop} {w0 : World} {p0 : Replay} {a1 : Option Addr} {c1 : Nat} {r : Bool} (hT : Bd T0 w0) (h1 : SlR rRecord T0 w0 (.slice a1 (List.length p0.L) c1) p0.L) (hm : law04_RecordReplays p0 = some r) :
    Calls Try.prog 6 #[.agg #[.slice a1 (List.length p0.L) c1, .int .i64 p0.From, .int .i64 p0.To, .int .u32 p0.Val]] w0 (Ret noB T0 w0 fun _ _ v => v = .bool r) := by
  refine enter (args := [.agg #[.slice a1 (List.length p0.L) c1, .int .i64 p0.From, .int .i64 p0.To, .int .u32 p0.Val]]) Try.func6 rfl Try.ntmps6 rfl fun J => ?_
  have hI0 := Inn.refl (B := w0.heap.size) (M := noB) hT (Nat.le_refl _)
  unfold law04_RecordReplays at hm
  refine sq2 ?_
  refine rg (bxv (cs := [.slice a1 (List.length p0.L) c1, .int .i64 p0.From, .int .i64 p0.To, .int .u32 p0.Val]) rfl rfl hI0.lt fun w1 b1 i1 bx1 ge1 nt1 => ?_)
  have gB1 : w0.heap.size ≤ b1 := Nat.le_trans hI0.le ge1
  have hI0 := hI0.call i1 (fun _ h => h.elim)
  have h1 := h1.mono i1.imm
  refine zb rfl (nil (t_then ?_))
  refine sq2 ?_
  refine rq mix (by kernel_rfl) hI0.lt (qfa rfl Try.underlying40 rfl Try.sizeOf22 rfl (qld rfl Try.isAgg22 (bx1.cell 0) (qfa rfl Try.underlying40 rfl Try.sizeOf3 rfl (qld rfl Try.isAgg3 (bx1.cell 1) (qfa rfl Try.underlying40 rfl Try.sizeOf3 rfl (qld rfl Try.isAgg3 (bx1.cell 2) (qfa rfl Try.underlying40 rfl Try.sizeOf33 rfl (qld rfl Try.isAgg33 (bx1.cell 3) (qzs rfl (qzi rfl (qzi rfl (qzi rfl (qn fun w2 T2 i2 => ?_)))))))))))))
  have hI0 := hI0.call i2 (fun _ h => h.elim)
  have h1 := h1.mono i2.imm
  refine t_then ?_
  refine sq2 ?_
  refine sq2 ?_
  refine rg (ms rfl (ln rfl Try.underlying22 (ib rfl rfl rfl (mb rfl (?_)))))
  rcases Bool.eq_false_or_eq_true (decide (300 < (List.length p0.L : Int))) with hb1 | hb1
  · have hm := ctrue hb1 hm
    refine gF (d0 := 25) rfl rfl (by rw [hb1]; rfl) (gF (d0 := 25) rfl rfl (by rw [hb1]; rfl) (pkt rfl hb1 rfl (mb rfl (gF (d0 := 29) rfl rfl rfl (gF (d0 := 29) rfl rfl rfl (gF (d0 := 29) rfl rfl rfl (pkt rfl rfl rfl (mb rfl (gF (d0 := 34) rfl rfl rfl (gF (d0 := 34) rfl rfl rfl (gF (d0 := 34) rfl rfl rfl (gF (d0 := 34) rfl rfl rfl (pkt rfl rfl rfl (nil (t_thenR [(3, .slice a1 (List.length p0.L) c1), (4, .int .i64 p0.From), (5, .int .i64 p0.To), (6, .int .u32 p0.Val), (39, .bool true)] ⟨rfl, rfl, rfl, rfl, rfl, trivial⟩ fun J => ?_)))))))))))))))
    refine cnd (b := true) rfl (fun _ => ?_) (fun h => nomatch h)
    refine sq2 ?_
    obtain ⟨y13, hx22, hm⟩ := bindS hm
    refine rg (cal cf7 (law04_awake_sim hI0.lt hx22) rfl fun v23 T34 w34 i34 rv13 => ?_)
    have hI0 := hI0.call i34 (fun _ h => h.elim)
    subst rv13
    refine zb rfl (nil (t_thenR [(2, .bool y13)] ⟨rfl, trivial⟩ fun J => ?_))
    cases hm
    exact rtn (r_then (ret1 rfl rfl ⟨_, rfl, _, hI0, rfl⟩))
  · have hm := cfalse hb1 hm
    refine gT (d0 := 25) rfl rfl hb1 (mi rfl (gT (d0 := 25) rfl rfl hb1 (ib rfl rfl rfl (pkf rfl hb1 rfl (mb rfl (?_))))))
    rcases Bool.eq_false_or_eq_true (decide (p0.From < 0)) with hb2 | hb2
    · have hm := ctrue hb2 hm
      refine gF (d0 := 29) rfl rfl (by rw [hb2]; rfl) (gF (d0 := 29) rfl rfl (by rw [hb2]; rfl) (gF (d0 := 29) rfl rfl (by rw [hb2]; rfl) (pkt rfl hb2 rfl (mb rfl (gF (d0 := 34) rfl rfl rfl (gF (d0 := 34) rfl rfl rfl (gF (d0 := 34) rfl rfl rfl (gF (d0 := 34) rfl rfl rfl (pkt rfl rfl rfl (nil (t_thenR [(3, .slice a1 (List.length p0.L) c1), (4, .int .i64 p0.From), (5, .int .i64 p0.To), (6, .int .u32 p0.Val), (39, .bool true)] ⟨rfl, rfl, rfl, rfl, rfl, trivial⟩ fun J => ?_)))))))))))
      refine cnd (b := true) rfl (fun _ => ?_) (fun h => nomatch h)
      refine sq2 ?_
      obtain ⟨y12, hx21, hm⟩ := bindS hm
      refine rg (cal cf7 (law04_awake_sim hI0.lt hx21) rfl fun v22 T33 w33 i33 rv12 => ?_)
      have hI0 := hI0.call i33 (fun _ h => h.elim)
      subst rv12
      refine zb rfl (nil (t_thenR [(2, .bool y12)] ⟨rfl, trivial⟩ fun J => ?_))
      cases hm
      exact rtn (r_then (ret1 rfl rfl ⟨_, rfl, _, hI0, rfl⟩))
    · have hm := cfalse hb2 hm
      refine gT (d0 := 29) rfl rfl hb2 (mi rfl (gT (d0 := 29) rfl rfl hb2 (mi rfl (gT (d0 := 29) rfl rfl hb2 (ib rfl rfl rfl (pkf rfl hb2 rfl (mb rfl (?_))))))))
      rcases Bool.eq_false_or_eq_true (decide (p0.To ≤ p0.From)) with hb3 | hb3
      · have hm := ctrue hb3 hm
        refine gF (d0 := 34) rfl rfl (by rw [hb3]; rfl) (gF (d0 := 34) rfl rfl (by rw [hb3]; rfl) (gF (d0 := 34) rfl rfl (by rw [hb3]; rfl) (gF (d0 := 34) rfl rfl (by rw [hb3]; rfl) (pkt rfl hb3 rfl (nil (t_thenR [(3, .slice a1 (List.length p0.L) c1), (4, .int .i64 p0.From), (5, .int .i64 p0.To), (6, .int .u32 p0.Val), (39, .bool true)] ⟨rfl, rfl, rfl, rfl, rfl, trivial⟩ fun J => ?_))))))
        refine cnd (b := true) rfl (fun _ => ?_) (fun h => nomatch h)
        refine sq2 ?_
        obtain ⟨y11, hx20, hm⟩ := bindS hm
        refine rg (cal cf7 (law04_awake_sim hI0.lt hx20) rfl fun v21 T32 w32 i32 rv11 => ?_)
        have hI0 := hI0.call i32 (fun _ h => h.elim)
        subst rv11
        refine zb rfl (nil (t_thenR [(2, .bool y11)] ⟨rfl, trivial⟩ fun J => ?_))
        cases hm
        exact rtn (r_then (ret1 rfl rfl ⟨_, rfl, _, hI0, rfl⟩))
      · have hm := cfalse hb3 hm
        refine gT (d0 := 34) rfl rfl hb3 (mi rfl (gT (d0 := 34) rfl rfl hb3 (ms rfl (gT (d0 := 34) rfl rfl hb3 (ln rfl Try.underlying22 (gT (d0 := 34) rfl rfl hb3 (ib rfl rfl rfl (pkf rfl hb3 rfl (nil (t_thenR [(3, .slice a1 (List.length p0.L) c1), (4, .int .i64 p0.From), (5, .int .i64 p0.To), (6, .int .u32 p0.Val), (39, .bool (decide ((List.length p0.L : Int) < p0.To)))] ⟨rfl, rfl, rfl, rfl, rfl, trivial⟩ fun J => ?_))))))))))
        refine cnd rfl (fun hb4 => ?_) (fun hb4 => ?_)
        · have hm := ctrue hb4 hm
          refine sq2 ?_
          obtain ⟨y1, hx1, hm⟩ := bindS hm
          refine rg (cal cf7 (law04_awake_sim hI0.lt hx1) rfl fun v1 T3 w3 i3 rv1 => ?_)
          have hI0 := hI0.call i3 (fun _ h => h.elim)
          subst rv1
          refine zb rfl (nil (t_thenR [(2, .bool y1)] ⟨rfl, trivial⟩ fun J => ?_))
          cases hm
          exact rtn (r_then (ret1 rfl rfl ⟨_, rfl, _, hI0, rfl⟩))
        · have hm := cfalse hb4 hm
          refine skp (t_then ?_)
          refine sq2 ?_
          refine rg (zs rfl (zs rfl (nil (t_then ?_))))
          refine sq2 ?_
          refine sq2 ?_
          refine rg (zi rfl (nil (t_then ?_)))
          obtain ⟨o1, ho1, hq1⟩ := bindS hm
          obtain ⟨bd1, hbd1, ho1⟩ := loop_open ho1
          have ow3 : OwS rRecord 38 w0.heap.size T2 w2 (.slice none 0 0) [] := OwS.nil
          have ow4 : OwS rRecord 38 w0.heap.size T2 w2 (.slice none 0 0) [] := OwS.nil
          refine blk (wp_loop_ghost (fun m a w4 => ∃ (J : Nat → Value) (T4 : Nat → Prop) (x1 : List Record) (v2 : Value) (x2 : List Record) (v3 : Value) (x3 : Int), a = env 151 J [(3, .slice a1 (List.length p0.L) c1), (4, .int .i64 p0.From), (5, .int .i64 p0.To), (6, .int .u32 p0.Val), (7, v2), (8, v3), (9, .int .i64 x3)] ∧ Inn w0.heap.size noB T2 w2 T4 w4 ∧ OwS rRecord 38 w0.heap.size T4 w4 v2 x1 ∧ OwS rRecord 38 w0.heap.size T4 w4 v3 x2 ∧ Dj2 v2 v3 ∧ loopM bd1 m (x1, x2, x3) = some o1) NN ⟨_, _, _, _, _, _, _, env_has ⟨rfl, rfl, rfl, rfl, rfl, rfl, rfl, trivial⟩, Inn.refl hI0.lt hI0.le, ow3, ow4, dj2_nil, ho1⟩ ?_)
          rintro m _ w4 ⟨J, T4, x1, v2, x2, v3, x3, rfl, hI1, ow1, ow2, dj1, ho1⟩
          have h1 := h1.mono hI1.imm
          obtain ⟨m1, z1, rfl, hm, hn1⟩ := loop_round ho1
          rw [hbd1] at hm
          refine sq2 ?_
          refine sq2 ?_
          refine rg (mi rfl (mi rfl (ib rfl rfl rfl (nil (t_then ?_)))))
          refine cnd rfl (fun hb5 => ?_) (fun hb5 => ?_)
          · have hm := ctrue hb5 hm
            refine skp (t_then ?_)
            refine sq2 ?_
            refine blk ?_
            refine sq2 ?_
            obtain ⟨u1, hx2, hm⟩ := bindS hm
            refine rg (mx (v := v2) rfl (ms rfl (mi rfl (ixR rfl rfl h1 hx2 Try.underlying22 Try.sizeOf38 rfl fun b2 of1 cs1 hr1 hc1 => ?_))))
            cases rRecord_open hr1
            refine ldS rfl Try.isAgg38 Try.sizeOf38 rfl hc1 (cs := [.int .u32 u1.Seq, .int .u32 u1.Val]) (bs (cs := [.int .u32 u1.Seq, .int .u32 u1.Val]) Try.underlying22 Try.sizeOf38 Try.zeroValue38 rfl rfl (by kernel_rfl) rfl hI1.lt fun w5 b3 i5 bx2 ge2 nt2 => ?_)
            have gB2 : w0.heap.size ≤ b3 := Nat.le_trans hI1.le ge2
            have dj2 := dj_new ow1 ge2
            have dj3 := dj_new ow2 ge2
            have hI1 := hI1.call i5 (fun _ h => h.elim)
            have h1 := h1.mono i5.imm
            have ow1 := ow1.kp i5 (fun _ _ => id)
            have ow2 := ow2.kp i5 (fun _ _ => id)
            obtain ⟨_, hro1, hm⟩ := bindS hm
            refine ap1 (u := u1) rfl ow1 rfl bx2 (rRecord_mk (x := u1) : rRecord.rp _ _ _ _) Try.underlying22 el38 (room_some hro1) hI1.lt hI1.le fun v4 w6 i6 ow5 djA1 => ?_
            have dj4 : Dj2 _ _ := fun k hk => djA1 k (ow2.lt k hk).2 (dj1 k hk)
            have hI1 := hI1.call i6 (fun k h => .inl (ow1.lt k h).1)
            have h1 := h1.mono i6.imm
            have ow2 := ow2.kp i6 (fun k hk h => dj1 k hk k h rfl)
            refine zx (v := v4) rfl (nil (t_then ?_))
            obtain ⟨u2, hx3, hm⟩ := bindS hm
            refine rg (mx (v := v3) rfl (ms rfl (mi rfl (ixR rfl rfl h1 hx3 Try.underlying22 Try.sizeOf38 rfl fun b4 of2 cs2 hr2 hc2 => ?_))))
            cases rRecord_open hr2
            refine ldS rfl Try.isAgg38 Try.sizeOf38 rfl hc2 (cs := [.int .u32 u2.Seq, .int .u32 u2.Val]) (bs (cs := [.int .u32 u2.Seq, .int .u32 u2.Val]) Try.underlying22 Try.sizeOf38 Try.zeroValue38 rfl rfl (by kernel_rfl) rfl hI1.lt fun w7 b5 i7 bx3 ge3 nt3 => ?_)
            have gB3 : w0.heap.size ≤ b5 := Nat.le_trans hI1.le ge3
            have dj5 := dj_new ow2 ge3
            have dj6 := dj_new ow5 ge3
            have hI1 := hI1.call i7 (fun _ h => h.elim)
            have h1 := h1.mono i7.imm
            have ow2 := ow2.kp i7 (fun _ _ => id)
            have ow5 := ow5.kp i7 (fun _ _ => id)
            obtain ⟨_, hro2, hm⟩ := bindS hm
            refine ap1 (u := u2) rfl ow2 rfl bx3 (rRecord_mk (x := u2) : rRecord.rp _ _ _ _) Try.underlying22 el38 (room_some hro2) hI1.lt hI1.le fun v5 w8 i8 ow6 djA2 => ?_
            have dj7 : Dj2 _ _ := fun k hk => djA2 k (ow5.lt k hk).2 (dj4.symm k hk)
            have hI1 := hI1.call i8 (fun k h => .inl (ow2.lt k h).1)
            have h1 := h1.mono i8.imm
            have ow5 := ow5.kp i8 (fun k hk h => dj4.symm k hk k h rfl)
            refine zx (v := v5) rfl (nil (t_blk (t_then ?_)))
            cases hm
            exact rg (mi rfl (ib rfl rfl rfl (zi rfl (nil (t_then ⟨m1, Nat.lt_succ_self _, _, _, _, _, _, _, _, env_has ⟨rfl, rfl, rfl, rfl, rfl, rfl, rfl, trivial⟩, hI1, ow5, ow6, dj7.symm, hn1⟩)))))
          · have hm := cfalse hb5 hm
            cases hm
            have hn1 : _ = Lp.brk _ := hn1
            subst hn1
            have hm := thn_brk hq1
            have hI0 := hI0.trans hI1
            refine xt (x_then (x_then (x_eq (t_then ?_))))
            refine sq2 ?_
            obtain ⟨u3, hx4, hm⟩ := bindS hm
            refine rg (mx (v := v2) rfl (ms rfl (mi rfl (ixR rfl rfl h1 hx4 Try.underlying22 Try.sizeOf38 rfl fun b6 of3 cs3 hr3 hc3 => ?_))))
            cases rRecord_open hr3
            refine ldS rfl Try.isAgg38 Try.sizeOf38 rfl hc3 (cs := [.int .u32 u3.Seq, .int .u32 u3.Val]) (bs (cs := [.int .u32 u3.Seq, .int .u32 u3.Val]) Try.underlying22 Try.sizeOf38 Try.zeroValue38 rfl rfl (by kernel_rfl) rfl hI0.lt fun w9 b7 i9 bx4 ge4 nt4 => ?_)
            have gB4 : w0.heap.size ≤ b7 := Nat.le_trans hI0.le ge4
            have dj8 := dj_new ow1 ge4
            have dj9 := dj_new ow2 ge4
            have hI0 := hI0.call i9 (fun _ h => h.elim)
            have h1 := h1.mono i9.imm
            have ow1 := ow1.kp i9 (fun _ _ => id)
            have ow2 := ow2.kp i9 (fun _ _ => id)
            obtain ⟨_, hro3, hm⟩ := bindS hm
            refine ap1 (u := u3) rfl ow1 rfl bx4 (rRecord_mk (x := u3) : rRecord.rp _ _ _ _) Try.underlying22 el38 (room_some hro3) hI0.lt hI0.le fun v6 w10 i10 ow7 djA3 => ?_
            have dj10 : Dj2 _ _ := fun k hk => djA3 k (ow2.lt k hk).2 (dj1 k hk)
            have hI0 := hI0.call i10 (fun k h => .inl (ow1.lt k h).1)
            have h1 := h1.mono i10.imm
            have ow2 := ow2.kp i10 (fun k hk h => dj1 k hk k h rfl)
            refine zx (v := v6) rfl (nil (t_then ?_))
            refine sq2 ?_
            obtain ⟨u4, hx5, hm⟩ := bindS hm
            refine rg (mx (v := v3) rfl (ms rfl (mi rfl (ixR rfl rfl h1 hx5 Try.underlying22 Try.sizeOf38 rfl fun b8 of4 cs4 hr4 hc4 => ?_))))
            cases rRecord_open hr4
            refine fa rfl Try.underlying38 rfl Try.sizeOf33 rfl (ld rfl Try.isAgg33 (hc4.get (j := 0) rfl) (mi rfl (bd (by kernel_rfl) rfl (u := .agg #[.int .u32 u4.Seq, .int .u32 p0.Val]) (bs (cs := [.int .u32 u4.Seq, .int .u32 p0.Val]) Try.underlying22 Try.sizeOf38 Try.zeroValue38 rfl rfl (by kernel_rfl) rfl hI0.lt fun w11 b9 i11 bx5 ge5 nt5 => ?_))))
            have gB5 : w0.heap.size ≤ b9 := Nat.le_trans hI0.le ge5
            have dj11 := dj_new ow2 ge5
            have dj12 := dj_new ow7 ge5
            have hI0 := hI0.call i11 (fun _ h => h.elim)
            have h1 := h1.mono i11.imm
            have ow2 := ow2.kp i11 (fun _ _ => id)
            have ow7 := ow7.kp i11 (fun _ _ => id)
            obtain ⟨_, hro4, hm⟩ := bindS hm
            refine ap1 (u := (⟨u4.Seq, p0.Val⟩ : Record)) rfl ow2 rfl bx5 (rRecord_mk (x := (⟨u4.Seq, p0.Val⟩ : Record)) : rRecord.rp _ _ _ _) Try.underlying22 el38 (room_some hro4) hI0.lt hI0.le fun v7 w12 i12 ow8 djA4 => ?_
            have dj13 : Dj2 _ _ := fun k hk => djA4 k (ow7.lt k hk).2 (dj10.symm k hk)
            have hI0 := hI0.call i12 (fun k h => .inl (ow2.lt k h).1)
            have h1 := h1.mono i12.imm
            have ow7 := ow7.kp i12 (fun k hk h => dj10.symm k hk k h rfl)
            refine zx (v := v7) rfl (nil (t_thenR [(3, .slice a1 (List.length p0.L) c1), (4, .int .i64 p0.From), (5, .int .i64 p0.To), (6, .int .u32 p0.Val), (7, v6), (8, v7)] ⟨rfl, rfl, rfl, rfl, rfl, rfl, trivial⟩ fun J => ?_))
            refine sq2 ?_
            refine sq2 ?_
            refine rg (mi rfl (zi rfl (nil (t_then ?_))))
            obtain ⟨o1, ho1, hq1⟩ := bindS hm
            obtain ⟨bd1, hbd1, ho1⟩ := loop_open ho1
            refine blk (wp_loop_ghost (fun m a w13 => ∃ (J : Nat → Value) (T13 : Nat → Prop) (x4 : List Record) (v8 : Value) (x5 : List Record) (v9 : Value) (x6 : Int), a = env 151 J [(3, .slice a1 (List.length p0.L) c1), (4, .int .i64 p0.From), (6, .int .u32 p0.Val), (7, v8), (8, v9), (10, .int .i64 x6)] ∧ Inn w0.heap.size noB T4 w12 T13 w13 ∧ OwS rRecord 38 w0.heap.size T13 w13 v8 x4 ∧ OwS rRecord 38 w0.heap.size T13 w13 v9 x5 ∧ Dj2 v8 v9 ∧ loopM bd1 m (x4, x5, x6) = some o1) NN ⟨_, _, _, _, _, _, _, env_has ⟨rfl, rfl, rfl, rfl, rfl, rfl, trivial⟩, Inn.refl hI0.lt hI0.le, ow7, ow8, dj13.symm, ho1⟩ ?_)
            rintro m _ w13 ⟨J, T13, x4, v8, x5, v9, x6, rfl, hI2, ow9, ow10, dj14, ho1⟩
            have h1 := h1.mono hI2.imm
            obtain ⟨m1, z1, rfl, hm, hn1⟩ := loop_round ho1
            rw [hbd1] at hm
            refine sq2 ?_
            refine sq2 ?_
            refine rg (mi rfl (ms rfl (ln rfl Try.underlying22 (ib rfl rfl rfl (nil (t_then ?_))))))
            refine cnd rfl (fun hb6 => ?_) (fun hb6 => ?_)
            · have hm := ctrue hb6 hm
              refine skp (t_then ?_)
              refine sq2 ?_
              refine blk ?_
              refine sq2 ?_
              obtain ⟨u5, hx6, hm⟩ := bindS hm
              refine rg (mx (v := v8) rfl (ms rfl (mi rfl (ixR rfl rfl h1 hx6 Try.underlying22 Try.sizeOf38 rfl fun b10 of5 cs5 hr5 hc5 => ?_))))
              cases rRecord_open hr5
              refine ldS rfl Try.isAgg38 Try.sizeOf38 rfl hc5 (cs := [.int .u32 u5.Seq, .int .u32 u5.Val]) (bs (cs := [.int .u32 u5.Seq, .int .u32 u5.Val]) Try.underlying22 Try.sizeOf38 Try.zeroValue38 rfl rfl (by kernel_rfl) rfl hI2.lt fun w14 b11 i14 bx6 ge6 nt6 => ?_)
              have gB6 : w0.heap.size ≤ b11 := Nat.le_trans hI2.le ge6
              have dj15 := dj_new ow10 ge6
              have dj16 := dj_new ow9 ge6
              have hI2 := hI2.call i14 (fun _ h => h.elim)
              have h1 := h1.mono i14.imm
              have ow10 := ow10.kp i14 (fun _ _ => id)
              have ow9 := ow9.kp i14 (fun _ _ => id)
              obtain ⟨_, hro5, hm⟩ := bindS hm
              refine ap1 (u := u5) rfl ow9 rfl bx6 (rRecord_mk (x := u5) : rRecord.rp _ _ _ _) Try.underlying22 el38 (room_some hro5) hI2.lt hI2.le fun v10 w15 i15 ow11 djA5 => ?_
              have dj17 : Dj2 _ _ := fun k hk => djA5 k (ow10.lt k hk).2 (dj14 k hk)
              have hI2 := hI2.call i15 (fun k h => .inl (ow9.lt k h).1)
              have h1 := h1.mono i15.imm
              have ow10 := ow10.kp i15 (fun k hk h => dj14 k hk k h rfl)
              refine zx (v := v10) rfl (nil (t_then ?_))
              obtain ⟨u6, hx7, hm⟩ := bindS hm
              refine rg (mx (v := v9) rfl (ms rfl (mi rfl (ixR rfl rfl h1 hx7 Try.underlying22 Try.sizeOf38 rfl fun b12 of6 cs6 hr6 hc6 => ?_))))
              cases rRecord_open hr6
              refine ldS rfl Try.isAgg38 Try.sizeOf38 rfl hc6 (cs := [.int .u32 u6.Seq, .int .u32 u6.Val]) (bs (cs := [.int .u32 u6.Seq, .int .u32 u6.Val]) Try.underlying22 Try.sizeOf38 Try.zeroValue38 rfl rfl (by kernel_rfl) rfl hI2.lt fun w16 b13 i16 bx7 ge7 nt7 => ?_)
              have gB7 : w0.heap.size ≤ b13 := Nat.le_trans hI2.le ge7
              have dj18 := dj_new ow11 ge7
              have dj19 := dj_new ow10 ge7
              have hI2 := hI2.call i16 (fun _ h => h.elim)
              have h1 := h1.mono i16.imm
              have ow11 := ow11.kp i16 (fun _ _ => id)
              have ow10 := ow10.kp i16 (fun _ _ => id)
              obtain ⟨_, hro6, hm⟩ := bindS hm
              refine ap1 (u := u6) rfl ow10 rfl bx7 (rRecord_mk (x := u6) : rRecord.rp _ _ _ _) Try.underlying22 el38 (room_some hro6) hI2.lt hI2.le fun v11 w17 i17 ow12 djA6 => ?_
              have dj20 : Dj2 _ _ := fun k hk => djA6 k (ow11.lt k hk).2 (dj17.symm k hk)
              have hI2 := hI2.call i17 (fun k h => .inl (ow10.lt k h).1)
              have h1 := h1.mono i17.imm
              have ow11 := ow11.kp i17 (fun k hk h => dj17.symm k hk k h rfl)
              refine zx (v := v11) rfl (nil (t_blk (t_then ?_)))
              cases hm
              exact rg (mi rfl (ib rfl rfl rfl (zi rfl (nil (t_then ⟨m1, Nat.lt_succ_self _, _, _, _, _, _, _, _, env_has ⟨rfl, rfl, rfl, rfl, rfl, rfl, trivial⟩, hI2, ow11, ow12, dj20.symm, hn1⟩)))))
            · have hm := cfalse hb6 hm
              cases hm
              have hn1 : _ = Lp.brk _ := hn1
              subst hn1
              have hm := thn_brk hq1
              have hI0 := hI0.trans hI2
              refine xt (x_then (x_then (x_eq (t_then ?_))))
              refine sq2 ?_
              obtain ⟨y2, hx8, hm⟩ := bindS hm
              refine rg (ms rfl (cal cf9 (record_First_sim hI0.lt h1 hx8) rfl fun v12 T18 w18 i18 rv2 => ?_))
              have hI0 := hI0.call i18 (fun _ h => h.elim)
              have h1 := h1.mono i18.imm
              have ow9 := ow9.kp i18 (fun _ _ => id)
              have ow10 := ow10.kp i18 (fun _ _ => id)
              obtain ⟨a2, c2, rfl⟩ := rv2.shape
              have h2 := rv2
              refine mx (v := v8) rfl (?_)
              obtain ⟨a3, c3, hsh⟩ := ow9.shape
              subst hsh
              have h3 := ow9.sealR
              have hI0 := ow9.sealI hI0 (Nat.le_refl _)
              have h1 := h1.mono (mimm (T' := sealT T18 (.slice a3 (List.length x4) c3)) fun _ h => .inl h)
              have h2 := h2.mono (mimm (T' := sealT T18 (.slice a3 (List.length x4) c3)) fun _ h => .inl h)
              have ow10 := ow10.sealO dj14
              obtain ⟨y3, hx9, hm⟩ := bindS hm
              refine cal cf9 (record_First_sim hI0.lt h3 hx9) rfl fun v13 T19 w19 i19 rv3 => ?_
              have hI0 := hI0.call i19 (fun _ h => h.elim)
              have h1 := h1.mono i19.imm
              have h3 := h3.mono i19.imm
              have h2 := h2.mono i19.imm
              have ow10 := ow10.kp i19 (fun _ _ => id)
              obtain ⟨a4, c4, rfl⟩ := rv3.shape
              have h4 := rv3
              refine zs rfl (zs rfl (nil (t_then ?_)))
              refine sq2 ?_
              refine sq2 ?_
              refine rg (ms rfl (ln rfl Try.underlying22 (ms rfl (ln rfl Try.underlying22 (ib rfl rfl rfl (mb rfl (?_)))))))
              rcases Bool.eq_false_or_eq_true ((List.length y2 : Int) != (List.length y3 : Int)) with hb7 | hb7
              · have hm := ctrue hb7 hm
                refine gF (d0 := 107) rfl rfl (by rw [hb7]; rfl) (gF (d0 := 107) rfl rfl (by rw [hb7]; rfl) (gF (d0 := 107) rfl rfl (by rw [hb7]; rfl) (gF (d0 := 107) rfl rfl (by rw [hb7]; rfl) (gF (d0 := 107) rfl rfl (by rw [hb7]; rfl) (gF (d0 := 107) rfl rfl (by rw [hb7]; rfl) (pkt rfl hb7 rfl (nil (t_thenR [(3, .slice a1 (List.length p0.L) c1), (4, .int .i64 p0.From), (6, .int .u32 p0.Val), (7, .slice a3 (List.length x4) c3), (8, v9), (11, .slice a2 (List.length y2) c2), (12, .slice a4 (List.length y3) c4), (114, .bool true)] ⟨rfl, rfl, rfl, rfl, rfl, rfl, rfl, rfl, trivial⟩ fun J => ?_))))))))
                refine cnd (b := true) rfl (fun _ => ?_) (fun h => nomatch h)
                refine sq2 ?_
                refine rg (zb rfl (nil (t_thenR [(2, .bool false)] ⟨rfl, trivial⟩ fun J => ?_)))
                cases hm
                exact rtn (r_then (ret1 rfl rfl ⟨_, rfl, _, hI0, rfl⟩))
              · have hm := cfalse hb7 hm
                obtain ⟨y4, hx10, hm⟩ := bindS hm
                refine gT (d0 := 107) rfl rfl hb7 (ms rfl (gT (d0 := 107) rfl rfl hb7 (cal cf12 (record_Replays_sim hI0.lt h3 hx10) rfl fun v14 T20 w20 i20 rv4 => ?_)))
                have hI0 := hI0.call i20 (fun _ h => h.elim)
                have h2 := h2.mono i20.imm
                have h4 := h4.mono i20.imm
                have h1 := h1.mono i20.imm
                have h3 := h3.mono i20.imm
                have ow10 := ow10.kp i20 (fun _ _ => id)
                subst rv4
                obtain ⟨y5, hx11, hm⟩ := bindS hm
                refine gT (d0 := 107) rfl rfl hb7 (ms rfl (gT (d0 := 107) rfl rfl hb7 (cal cf12 (record_Replays_sim hI0.lt h1 hx11) rfl fun v15 T21 w21 i21 rv5 => ?_)))
                have hI0 := hI0.call i21 (fun _ h => h.elim)
                have h2 := h2.mono i21.imm
                have h4 := h4.mono i21.imm
                have h1 := h1.mono i21.imm
                have h3 := h3.mono i21.imm
                have ow10 := ow10.kp i21 (fun _ _ => id)
                subst rv5
                refine gT (d0 := 107) rfl rfl hb7 (ib rfl rfl rfl (gT (d0 := 107) rfl rfl hb7 (ib rfl rfl rfl (pkf rfl hb7 rfl (nil (t_thenR [(3, .slice a1 (List.length p0.L) c1), (4, .int .i64 p0.From), (6, .int .u32 p0.Val), (7, .slice a3 (List.length x4) c3), (8, v9), (11, .slice a2 (List.length y2) c2), (12, .slice a4 (List.length y3) c4), (114, .bool (y4 != (IntKind.wrap .i64 (y5 + 1))))] ⟨rfl, rfl, rfl, rfl, rfl, rfl, rfl, rfl, trivial⟩ fun J => ?_))))))
                refine cnd rfl (fun hb8 => ?_) (fun hb8 => ?_)
                · have hm := ctrue hb8 hm
                  refine sq2 ?_
                  refine rg (zb rfl (nil (t_thenR [(2, .bool false)] ⟨rfl, trivial⟩ fun J => ?_)))
                  cases hm
                  exact rtn (r_then (ret1 rfl rfl ⟨_, rfl, _, hI0, rfl⟩))
                · have hm := cfalse hb8 hm
                  refine skp (t_then ?_)
                  refine sq2 ?_
                  refine sq2 ?_
                  refine rg (zi rfl (nil (t_then ?_)))
                  obtain ⟨o1, ho1, hq1⟩ := bindS hm
                  obtain ⟨bd1, hbd1, ho1⟩ := loop_open ho1
                  refine blk (wp_loop_ghost (fun m a w22 => ∃ (J : Nat → Value) (T22 : Nat → Prop) (x7 : Int), a = env 151 J [(3, .slice a1 (List.length p0.L) c1), (4, .int .i64 p0.From), (6, .int .u32 p0.Val), (7, .slice a3 (List.length x4) c3), (8, v9), (11, .slice a2 (List.length y2) c2), (12, .slice a4 (List.length y3) c4), (13, .int .i64 x7)] ∧ Inn w0.heap.size noB T21 w21 T22 w22 ∧ OwS rRecord 38 w0.heap.size T22 w22 v9 x5 ∧ loopM bd1 m x7 = some o1) NN ⟨_, _, _, env_has ⟨rfl, rfl, rfl, rfl, rfl, rfl, rfl, rfl, trivial⟩, Inn.refl hI0.lt hI0.le, ow10, ho1⟩ ?_)
                  rintro m _ w22 ⟨J, T22, x7, rfl, hI3, ow10, ho1⟩
                  have h2 := h2.mono hI3.imm
                  have h4 := h4.mono hI3.imm
                  have h1 := h1.mono hI3.imm
                  have h3 := h3.mono hI3.imm
                  obtain ⟨m1, z1, rfl, hm, hn1⟩ := loop_round ho1
                  rw [hbd1] at hm
                  refine sq2 ?_
                  refine sq2 ?_
                  refine rg (mi rfl (ms rfl (ln rfl Try.underlying22 (ib rfl rfl rfl (nil (t_then ?_))))))
                  refine cnd rfl (fun hb9 => ?_) (fun hb9 => ?_)
                  · have hm := ctrue hb9 hm
                    refine skp (t_then ?_)
                    refine sq2 ?_
                    refine blk ?_
                    refine sq2 ?_
                    obtain ⟨u7, hx12, hm⟩ := bindS hm
                    refine rq mix (by kernel_rfl) hI3.lt (qms rfl (qmi rfl (qixR rfl rfl h2 hx12 Try.underlying22 Try.sizeOf38 rfl fun b14 of7 cs7 hr7 hc7 => ?_)))
                    cases rRecord_open hr7
                    obtain ⟨u8, hx13, hm⟩ := bindS hm
                    refine qldS rfl Try.isAgg38 Try.sizeOf38 rfl hc7 (cs := [.int .u32 u7.Seq, .int .u32 u7.Val]) (qms rfl (qmi rfl (qixR rfl rfl h4 hx13 Try.underlying22 Try.sizeOf38 rfl fun b15 of8 cs8 hr8 hc8 => ?_)))
                    cases rRecord_open hr8
                    refine qldS rfl Try.isAgg38 Try.sizeOf38 rfl hc8 (cs := [.int .u32 u8.Seq, .int .u32 u8.Val]) (qseqn rfl rfl (ne_38 u7.Seq u7.Val u8.Seq u8.Val) (qn fun w23 T23 i23 => ?_))
                    have hI3 := hI3.call i23 (fun _ h => h.elim)
                    have h2 := h2.mono i23.imm
                    have h4 := h4.mono i23.imm
                    have h1 := h1.mono i23.imm
                    have h3 := h3.mono i23.imm
                    have ow10 := ow10.kp i23 (fun _ _ => id)
                    refine t_then ?_
                    refine cnd rfl (fun hb10 => ?_) (fun hb10 => ?_)
                    · have hm := ctrue hb10 hm
                      refine sq2 ?_
                      refine rg (zb rfl (nil (t_thenR [(2, .bool false)] ⟨rfl, trivial⟩ fun J => ?_)))
                      have hIr := hI0.trans hI3
                      cases hm
                      have hn1 : _ = Lp.ret _ := hn1
                      subst hn1
                      have hm := thn_ret hq1
                      cases hm
                      exact rtn (r_blk (r_then (r_then (r_blk (r_then (ret1 rfl rfl ⟨_, rfl, _, hIr, rfl⟩))))))
                    · have hm := cfalse hb10 hm
                      refine skp (t_blk (t_then ?_))
                      cases hm
                      exact rg (mi rfl (ib rfl rfl rfl (zi rfl (nil (t_then ⟨m1, Nat.lt_succ_self _, _, _, _, env_has ⟨rfl, rfl, rfl, rfl, rfl, rfl, rfl, rfl, trivial⟩, hI3, ow10, hn1⟩)))))
                  · have hm := cfalse hb9 hm
                    cases hm
                    have hn1 : _ = Lp.brk _ := hn1
                    subst hn1
                    have hm := thn_brk hq1
                    have hI0 := hI0.trans hI3
                    refine xt (x_then (x_then (x_eq (t_then ?_))))
                    refine sq2 ?_
                    refine sq2 ?_
                    obtain ⟨y6, hx14, hm⟩ := bindS hm
                    refine rg (ms rfl (cal cf13 (record_Orderly_sim hI0.lt h1 hx14) rfl fun v16 T24 w24 i24 rv6 => ?_))
                    have hI0 := hI0.call i24 (fun _ h => h.elim)
                    have h1 := h1.mono i24.imm
                    have h3 := h3.mono i24.imm
                    have ow10 := ow10.kp i24 (fun _ _ => id)
                    subst rv6
                    refine nt rfl (nil (t_then ?_))
                    refine cnd rfl (fun hb11 => ?_) (fun hb11 => ?_)
                    · have hm := ctrue hb11 hm
                      refine sq2 ?_
                      obtain ⟨y7, hx15, hm⟩ := bindS hm
                      refine rg (cal cf7 (law04_awake_sim hI0.lt hx15) rfl fun v17 T25 w25 i25 rv7 => ?_)
                      have hI0 := hI0.call i25 (fun _ h => h.elim)
                      subst rv7
                      refine zb rfl (nil (t_thenR [(2, .bool y7)] ⟨rfl, trivial⟩ fun J => ?_))
                      cases hm
                      exact rtn (r_then (ret1 rfl rfl ⟨_, rfl, _, hI0, rfl⟩))
                    · have hm := cfalse hb11 hm
                      refine skp (t_then ?_)
                      refine sq2 ?_
                      obtain ⟨a5, c5, hsh⟩ := ow10.shape
                      subst hsh
                      have h5 := ow10.sealR
                      have hI0 := ow10.sealI hI0 (Nat.le_refl _)
                      have h1 := h1.mono (mimm (T' := sealT T24 (.slice a5 (List.length x5) c5)) fun _ h => .inl h)
                      have h3 := h3.mono (mimm (T' := sealT T24 (.slice a5 (List.length x5) c5)) fun _ h => .inl h)
                      obtain ⟨y8, hx16, hm⟩ := bindS hm
                      refine rq mix (by kernel_rfl) hI0.lt (qcal (v := .bool y8) cf7 rfl (fun Tq1 wq1 iq1 => law04_awake_sim iq1.lt hx16) (qmb rfl (?_)))
                      rcases Bool.eq_false_or_eq_true y8 with hb12 | hb12
                      · have hm := ctrue hb12 hm
                        obtain ⟨y9, hx17, hm⟩ := bindS hm
                        refine qgT (d0 := 135) rfl rfl hb12 (qms rfl (qgT (d0 := 135) rfl rfl hb12 (qcal (v := .bool y9) cf13 rfl (fun Tq2 wq2 iq2 => record_Orderly_sim iq2.lt (h3.mono iq2.imm) hx17) (qpkt rfl hb12 rfl (qmb rfl (?_))))))
                        rcases Bool.eq_false_or_eq_true y9 with hb13 | hb13
                        · have hm := ctrue hb13 hm
                          obtain ⟨y10, hx18, hm⟩ := bindS hm
                          obtain ⟨u9, hx19, hm⟩ := bindS hm
                          refine qgT (d0 := 139) rfl rfl hb13 (qms rfl (qgT (d0 := 139) rfl rfl hb13 (qcal (v := .bool y10) cf13 rfl (fun Tq3 wq3 iq3 => record_Orderly_sim iq3.lt (h5.mono iq3.imm) hx18) (qgT (d0 := 139) rfl rfl hb13 (qmi rfl (qgT (d0 := 139) rfl rfl hb13 (qms rfl (qgT (d0 := 139) rfl rfl hb13 (qmi rfl (qgT (d0 := 139) rfl rfl hb13 (qixR rfl rfl h1 hx19 Try.underlying22 Try.sizeOf38 rfl fun b16 of9 cs9 hr9 hc9 => ?_)))))))))))
                          cases rRecord_open hr9
                          refine qgT (d0 := 139) rfl rfl hb13 (qfa rfl Try.underlying38 rfl Try.sizeOf33 rfl (qgT (d0 := 139) rfl rfl hb13 (qld rfl Try.isAgg33 (hc9.get (j := 1) rfl) (qgT (d0 := 139) rfl rfl hb13 (qib rfl rfl rfl (qgT (d0 := 139) rfl rfl hb13 (qbq rfl rfl Try.underlying4 (qpkt rfl hb13 rfl (qzb rfl (qn fun w29 T29 i29 => ?_))))))))))
                          have hI0 := hI0.call i29 (fun _ h => h.elim)
                          refine t_thenR [(2, .bool (y10 == (p0.Val == u9.Val)))] ⟨rfl, trivial⟩ fun J => ?_
                          cases hm
                          exact rtn (ret1 rfl rfl ⟨_, rfl, _, hI0, rfl⟩)
                        · have hm := cfalse hb13 hm
                          refine qgF (d0 := 139) rfl rfl (by rw [hb13]; rfl) (qgF (d0 := 139) rfl rfl (by rw [hb13]; rfl) (qgF (d0 := 139) rfl rfl (by rw [hb13]; rfl) (qgF (d0 := 139) rfl rfl (by rw [hb13]; rfl) (qgF (d0 := 139) rfl rfl (by rw [hb13]; rfl) (qgF (d0 := 139) rfl rfl (by rw [hb13]; rfl) (qgF (d0 := 139) rfl rfl (by rw [hb13]; rfl) (qgF (d0 := 139) rfl rfl (by rw [hb13]; rfl) (qgF (d0 := 139) rfl rfl (by rw [hb13]; rfl) (qgF (d0 := 139) rfl rfl (by rw [hb13]; rfl) (qpkf rfl hb13 rfl (qzb rfl (qn fun w30 T30 i30 => ?_))))))))))))
                          have hI0 := hI0.call i30 (fun _ h => h.elim)
                          refine t_thenR [(2, .bool false)] ⟨rfl, trivial⟩ fun J => ?_
                          cases hm
                          exact rtn (ret1 rfl rfl ⟨_, rfl, _, hI0, rfl⟩)
                      · have hm := cfalse hb12 hm
                        refine qgF (d0 := 135) rfl rfl (by rw [hb12]; rfl) (qgF (d0 := 135) rfl rfl (by rw [hb12]; rfl) (qpkf rfl hb12 rfl (qmb rfl (qgF (d0 := 139) rfl rfl rfl (qgF (d0 := 139) rfl rfl rfl (qgF (d0 := 139) rfl rfl rfl (qgF (d0 := 139) rfl rfl rfl (qgF (d0 := 139) rfl rfl rfl (qgF (d0 := 139) rfl rfl rfl (qgF (d0 := 139) rfl rfl rfl (qgF (d0 := 139) rfl rfl rfl (qgF (d0 := 139) rfl rfl rfl (qgF (d0 := 139) rfl rfl rfl (qpkf rfl rfl rfl (qzb rfl (qn fun w31 T31 i31 => ?_))))))))))))))))
                        have hI0 := hI0.call i31 (fun _ h => h.elim)
                        refine t_thenR [(2, .bool false)] ⟨rfl, trivial⟩ fun J => ?_
                        cases hm
                        exact rtn (ret1 rfl rfl ⟨_, rfl, _, hI0, rfl⟩)
end Go.Proofs.Ythkiglifgbamiaa
