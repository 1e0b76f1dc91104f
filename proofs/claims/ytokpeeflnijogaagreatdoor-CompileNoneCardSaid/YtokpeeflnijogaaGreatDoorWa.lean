/- That Go functions compute their models. Printed by gen2.py. -/
import Derived.Test.YtokpeeflnijogaaGreatDoorRows
import Derived.Test.YtokpeeflnijogaaGreatDoorFoc
import Derived.Test.YtokpeeflnijogaaGreatDoorTree
import Derived.Test.YtokpeeflnijogaaGreatDoorArr
import Derived.Test.YtokpeeflnijogaaGreatDoorErr
import Derived.Test.YtokpeeflnijogaaGreatDoorH
import Derived.Test.YtokpeeflnijogaaGreatDoorM
set_option linter.unusedVariables false
namespace Go.Proofs.YtokpeeflnijogaaGreatDoor
open _root_.Go.Proofs.Tryz
set_option maxRecDepth 100000
set_option maxHeartbeats 1000000
attribute [local irreducible] wpList wpQuiet Code.wp
variable {g : World} {T0 : Nat → Prop} {w0 : World} {R : Assn}
def rVoid (n : Nat) : Rp Empty where
  sz := n
  agg := true
  rp := fun _ _ _ _ => False
  len := fun h => h.elim
  one := fun h => h.elim
  mono := fun _ h => h
def rGOptions : Rp GOptions := ((rPair (rInt .i64) (rPair (rInt .i64) (rPair (rInt .i64) rBool)))).iso fun x => (x.Data, x.Regs, x.Notes, x.Plain)
theorem rGOptions_open {T : Nat → Prop} {w : World} {cs : List Value} {x : GOptions} (h : rGOptions.rp T w cs x) : cs = [.int .i64 x.Data, .int .i64 x.Regs, .int .i64 x.Notes, .bool x.Plain] := by
  obtain ⟨q1, y1, rfl, f1, g1⟩ := h
  cases f1
  obtain ⟨q2, y2, rfl, f2, g2⟩ := g1
  cases f2
  obtain ⟨q3, y3, rfl, f3, g3⟩ := g2
  cases f3
  cases g3
  exact rfl
theorem rGOptions_mk {T : Nat → Prop} {w : World} {x : GOptions}   : rGOptions.rp T w [.int .i64 x.Data, .int .i64 x.Regs, .int .i64 x.Notes, .bool x.Plain] x := ⟨_, _, rfl, rfl, ⟨_, _, rfl, rfl, ⟨_, _, rfl, rfl, rfl⟩⟩⟩
def rPos : Rp Pos := ((rPair (rInt .i64) (rInt .i64))).iso fun x => (x.Line, x.Col)
theorem rPos_open {T : Nat → Prop} {w : World} {cs : List Value} {x : Pos} (h : rPos.rp T w cs x) : cs = [.int .i64 x.Line, .int .i64 x.Col] := by
  obtain ⟨q1, y1, rfl, f1, g1⟩ := h
  cases f1
  cases g1
  exact rfl
theorem rPos_mk {T : Nat → Prop} {w : World} {x : Pos}   : rPos.rp T w [.int .i64 x.Line, .int .i64 x.Col] x := ⟨_, _, rfl, rfl, rfl⟩
def rLexScanner : Rp LexScanner := ((rPair rStr rPos)).iso fun x => (x.s, x.pos)
theorem rLexScanner_open {T : Nat → Prop} {w : World} {cs : List Value} {x : LexScanner} (h : rLexScanner.rp T w cs x) : cs = [.string ⟨x.s.toArray⟩, .int .i64 x.pos.Line, .int .i64 x.pos.Col] := by
  obtain ⟨q1, y1, rfl, f1, g1⟩ := h
  cases f1
  cases rPos_open g1
  exact rfl
theorem rLexScanner_mk {T : Nat → Prop} {w : World} {x : LexScanner}   : rLexScanner.rp T w [.string ⟨x.s.toArray⟩, .int .i64 x.pos.Line, .int .i64 x.pos.Col] x := ⟨_, _, rfl, rfl, rPos_mk⟩
def rGToken : Rp GToken := ((rPair (rInt .i64) (rPair rStr (rPair (rInt .u32) rPos)))).iso fun x => (x.Kind, x.Text, x.Num, x.Pos)
theorem rGToken_open {T : Nat → Prop} {w : World} {cs : List Value} {x : GToken} (h : rGToken.rp T w cs x) : cs = [.int .i64 x.Kind, .string ⟨x.Text.toArray⟩, .int .u32 x.Num, .int .i64 x.Pos.Line, .int .i64 x.Pos.Col] := by
  obtain ⟨q1, y1, rfl, f1, g1⟩ := h
  cases f1
  obtain ⟨q2, y2, rfl, f2, g2⟩ := g1
  cases f2
  obtain ⟨q3, y3, rfl, f3, g3⟩ := g2
  cases f3
  cases rPos_open g3
  exact rfl
theorem rGToken_mk {T : Nat → Prop} {w : World} {x : GToken}   : rGToken.rp T w [.int .i64 x.Kind, .string ⟨x.Text.toArray⟩, .int .u32 x.Num, .int .i64 x.Pos.Line, .int .i64 x.Pos.Col] x := ⟨_, _, rfl, rfl, ⟨_, _, rfl, rfl, ⟨_, _, rfl, rfl, rPos_mk⟩⟩⟩
def rref07Token : Rp ref07Token := ((rPair (rInt .i64) (rPair rStr (rPair (rInt .u32) (rInt .i64))))).iso fun x => (x.Kind, x.Text, x.Num, x.At)
theorem rref07Token_open {T : Nat → Prop} {w : World} {cs : List Value} {x : ref07Token} (h : rref07Token.rp T w cs x) : cs = [.int .i64 x.Kind, .string ⟨x.Text.toArray⟩, .int .u32 x.Num, .int .i64 x.At] := by
  obtain ⟨q1, y1, rfl, f1, g1⟩ := h
  cases f1
  obtain ⟨q2, y2, rfl, f2, g2⟩ := g1
  cases f2
  obtain ⟨q3, y3, rfl, f3, g3⟩ := g2
  cases f3
  cases g3
  exact rfl
theorem rref07Token_mk {T : Nat → Prop} {w : World} {x : ref07Token}   : rref07Token.rp T w [.int .i64 x.Kind, .string ⟨x.Text.toArray⟩, .int .u32 x.Num, .int .i64 x.At] x := ⟨_, _, rfl, rfl, ⟨_, _, rfl, rfl, ⟨_, _, rfl, rfl, rfl⟩⟩⟩
def rref07Lexed : Rp ref07Lexed := ((rPair (rSl rref07Token) (rPair (rInt .i64) (rInt .i64)))).iso fun x => (x.L, x.At, x.E)
theorem rref07Lexed_open {T : Nat → Prop} {w : World} {cs : List Value} {x : ref07Lexed} (h : rref07Lexed.rp T w cs x) : ∃ (a0 : Option Addr) (c0 : Nat), cs = [.slice a0 (List.length x.L) c0, .int .i64 x.At, .int .i64 x.E] ∧ SlR rref07Token T w (.slice a0 (List.length x.L) c0) x.L := by
  obtain ⟨q1, y1, rfl, f1, g1⟩ := h
  obtain ⟨v2, rfl, s2⟩ := f1
  obtain ⟨b2, k2, rfl⟩ := s2.shape
  obtain ⟨q3, y3, rfl, f3, g3⟩ := g1
  cases f3
  cases g3
  exact ⟨b2, k2, rfl, s2⟩
theorem rref07Lexed_mk {T : Nat → Prop} {w : World} {x : ref07Lexed} {a0 : Option Addr} {c0 : Nat} (e0 : SlR rref07Token T w (.slice a0 (List.length x.L) c0) x.L) : rref07Lexed.rp T w [.slice a0 (List.length x.L) c0, .int .i64 x.At, .int .i64 x.E] x := ⟨_, _, rfl, ⟨_, rfl, e0⟩, ⟨_, _, rfl, rfl, rfl⟩⟩
def rGImage : Rp GImage := ((rPair (rSl (rInt .u32)) (rPair (rSl (rInt .u8)) (rPair (rInt .i64) (rInt .i64))))).iso fun x => (x.Code, x.Data, x.Limit, x.Notes)
theorem rGImage_open {T : Nat → Prop} {w : World} {cs : List Value} {x : GImage} (h : rGImage.rp T w cs x) : ∃ (a0 : Option Addr) (c0 : Nat) (a1 : Option Addr) (c1 : Nat), cs = [.slice a0 (List.length x.Code) c0, .slice a1 (List.length x.Data) c1, .int .i64 x.Limit, .int .i64 x.Notes] ∧ SlR (rInt .u32) T w (.slice a0 (List.length x.Code) c0) x.Code ∧ SlR (rInt .u8) T w (.slice a1 (List.length x.Data) c1) x.Data := by
  obtain ⟨q1, y1, rfl, f1, g1⟩ := h
  obtain ⟨v2, rfl, s2⟩ := f1
  obtain ⟨b2, k2, rfl⟩ := s2.shape
  obtain ⟨q3, y3, rfl, f3, g3⟩ := g1
  obtain ⟨v4, rfl, s4⟩ := f3
  obtain ⟨b4, k4, rfl⟩ := s4.shape
  obtain ⟨q5, y5, rfl, f5, g5⟩ := g3
  cases f5
  cases g5
  exact ⟨b2, k2, b4, k4, rfl, s2, s4⟩
theorem rGImage_mk {T : Nat → Prop} {w : World} {x : GImage} {a0 : Option Addr} {c0 : Nat} {a1 : Option Addr} {c1 : Nat} (e0 : SlR (rInt .u32) T w (.slice a0 (List.length x.Code) c0) x.Code) (e1 : SlR (rInt .u8) T w (.slice a1 (List.length x.Data) c1) x.Data) : rGImage.rp T w [.slice a0 (List.length x.Code) c0, .slice a1 (List.length x.Data) c1, .int .i64 x.Limit, .int .i64 x.Notes] x := ⟨_, _, rfl, ⟨_, rfl, e0⟩, ⟨_, _, rfl, ⟨_, rfl, e1⟩, ⟨_, _, rfl, rfl, rfl⟩⟩⟩
def rGModule : Rp GModule := ((rPair (rSl (rVoid 4)) (rPair (rSl (rSl (rInt .u8))) (rPair (rSl (rVoid 6)) (rInt .i64))))).iso fun x => (x.Globals, x.Data, x.Procs, x.Main)
theorem rGModule_open {T : Nat → Prop} {w : World} {cs : List Value} {x : GModule} (h : rGModule.rp T w cs x) : ∃ (a0 : Option Addr) (c0 : Nat) (a1 : Option Addr) (c1 : Nat) (a2 : Option Addr) (c2 : Nat), cs = [.slice a0 (List.length x.Globals) c0, .slice a1 (List.length x.Data) c1, .slice a2 (List.length x.Procs) c2, .int .i64 x.Main] ∧ SlR (rVoid 4) T w (.slice a0 (List.length x.Globals) c0) x.Globals ∧ SlR (rSl (rInt .u8)) T w (.slice a1 (List.length x.Data) c1) x.Data ∧ SlR (rVoid 6) T w (.slice a2 (List.length x.Procs) c2) x.Procs := by
  obtain ⟨q1, y1, rfl, f1, g1⟩ := h
  obtain ⟨v2, rfl, s2⟩ := f1
  obtain ⟨b2, k2, rfl⟩ := s2.shape
  obtain ⟨q3, y3, rfl, f3, g3⟩ := g1
  obtain ⟨v4, rfl, s4⟩ := f3
  obtain ⟨b4, k4, rfl⟩ := s4.shape
  obtain ⟨q5, y5, rfl, f5, g5⟩ := g3
  obtain ⟨v6, rfl, s6⟩ := f5
  obtain ⟨b6, k6, rfl⟩ := s6.shape
  cases g5
  exact ⟨b2, k2, b4, k4, b6, k6, rfl, s2, s4, s6⟩
theorem rGModule_mk {T : Nat → Prop} {w : World} {x : GModule} {a0 : Option Addr} {c0 : Nat} {a1 : Option Addr} {c1 : Nat} {a2 : Option Addr} {c2 : Nat} (e0 : SlR (rVoid 4) T w (.slice a0 (List.length x.Globals) c0) x.Globals) (e1 : SlR (rSl (rInt .u8)) T w (.slice a1 (List.length x.Data) c1) x.Data) (e2 : SlR (rVoid 6) T w (.slice a2 (List.length x.Procs) c2) x.Procs) : rGModule.rp T w [.slice a0 (List.length x.Globals) c0, .slice a1 (List.length x.Data) c1, .slice a2 (List.length x.Procs) c2, .int .i64 x.Main] x := ⟨_, _, rfl, ⟨_, rfl, e0⟩, ⟨_, _, rfl, ⟨_, rfl, e1⟩, ⟨_, _, rfl, ⟨_, rfl, e2⟩, rfl⟩⟩⟩
def rGProgram : Rp GProgram := ((rPair (rSl (rVoid 4)) (rPair (rSl (rVoid 9)) (rSl (rVoid 8))))).iso fun x => (x.Structs, x.Globals, x.Funcs)
theorem rGProgram_open {T : Nat → Prop} {w : World} {cs : List Value} {x : GProgram} (h : rGProgram.rp T w cs x) : ∃ (a0 : Option Addr) (c0 : Nat) (a1 : Option Addr) (c1 : Nat) (a2 : Option Addr) (c2 : Nat), cs = [.slice a0 (List.length x.Structs) c0, .slice a1 (List.length x.Globals) c1, .slice a2 (List.length x.Funcs) c2] ∧ SlR (rVoid 4) T w (.slice a0 (List.length x.Structs) c0) x.Structs ∧ SlR (rVoid 9) T w (.slice a1 (List.length x.Globals) c1) x.Globals ∧ SlR (rVoid 8) T w (.slice a2 (List.length x.Funcs) c2) x.Funcs := by
  obtain ⟨q1, y1, rfl, f1, g1⟩ := h
  obtain ⟨v2, rfl, s2⟩ := f1
  obtain ⟨b2, k2, rfl⟩ := s2.shape
  obtain ⟨q3, y3, rfl, f3, g3⟩ := g1
  obtain ⟨v4, rfl, s4⟩ := f3
  obtain ⟨b4, k4, rfl⟩ := s4.shape
  obtain ⟨v5, rfl, s5⟩ := g3
  obtain ⟨b5, k5, rfl⟩ := s5.shape
  exact ⟨b2, k2, b4, k4, b5, k5, rfl, s2, s4, s5⟩
theorem rGProgram_mk {T : Nat → Prop} {w : World} {x : GProgram} {a0 : Option Addr} {c0 : Nat} {a1 : Option Addr} {c1 : Nat} {a2 : Option Addr} {c2 : Nat} (e0 : SlR (rVoid 4) T w (.slice a0 (List.length x.Structs) c0) x.Structs) (e1 : SlR (rVoid 9) T w (.slice a1 (List.length x.Globals) c1) x.Globals) (e2 : SlR (rVoid 8) T w (.slice a2 (List.length x.Funcs) c2) x.Funcs) : rGProgram.rp T w [.slice a0 (List.length x.Structs) c0, .slice a1 (List.length x.Globals) c1, .slice a2 (List.length x.Funcs) c2] x := ⟨_, _, rfl, ⟨_, rfl, e0⟩, ⟨_, _, rfl, ⟨_, rfl, e1⟩, ⟨_, rfl, e2⟩⟩⟩
theorem cf4 : CallOk Tryz.prog 4 := ⟨⟨_, Tryz.func4, by kernel_rfl, by kernel_rfl⟩⟩
theorem cf5 : CallOk Tryz.prog 5 := ⟨⟨_, Tryz.func5, by kernel_rfl, by kernel_rfl⟩⟩
theorem cf6 : CallOk Tryz.prog 6 := ⟨⟨_, Tryz.func6, by kernel_rfl, by kernel_rfl⟩⟩
theorem cf7 : CallOk Tryz.prog 7 := ⟨⟨_, Tryz.func7, by kernel_rfl, by kernel_rfl⟩⟩
theorem cf8 : CallOk Tryz.prog 8 := ⟨⟨_, Tryz.func8, by kernel_rfl, by kernel_rfl⟩⟩
theorem cf9 : CallOk Tryz.prog 9 := ⟨⟨_, Tryz.func9, by kernel_rfl, by kernel_rfl⟩⟩
theorem cf10 : CallOk Tryz.prog 10 := ⟨⟨_, Tryz.func10, by kernel_rfl, by kernel_rfl⟩⟩
theorem cf11 : CallOk Tryz.prog 11 := ⟨⟨_, Tryz.func11, by kernel_rfl, by kernel_rfl⟩⟩
theorem cf12 : CallOk Tryz.prog 12 := ⟨⟨_, Tryz.func12, by kernel_rfl, by kernel_rfl⟩⟩
theorem cf13 : CallOk Tryz.prog 13 := ⟨⟨_, Tryz.func13, by kernel_rfl, by kernel_rfl⟩⟩
theorem cf14 : CallOk Tryz.prog 14 := ⟨⟨_, Tryz.func14, by kernel_rfl, by kernel_rfl⟩⟩
theorem cf17 : CallOk Tryz.prog 17 := ⟨⟨_, Tryz.func17, by kernel_rfl, by kernel_rfl⟩⟩
theorem cf21 : CallOk Tryz.prog 21 := ⟨⟨_, Tryz.func21, by kernel_rfl, by kernel_rfl⟩⟩
theorem cf22 : CallOk Tryz.prog 22 := ⟨⟨_, Tryz.func22, by kernel_rfl, by kernel_rfl⟩⟩
theorem cf23 : CallOk Tryz.prog 23 := ⟨⟨_, Tryz.func23, by kernel_rfl, by kernel_rfl⟩⟩
theorem cf24 : CallOk Tryz.prog 24 := ⟨⟨_, Tryz.func24, by kernel_rfl, by kernel_rfl⟩⟩
theorem cf25 : CallOk Tryz.prog 25 := ⟨⟨_, Tryz.func25, by kernel_rfl, by kernel_rfl⟩⟩
theorem cf26 : CallOk Tryz.prog 26 := ⟨⟨_, Tryz.func26, by kernel_rfl, by kernel_rfl⟩⟩
theorem cf27 : CallOk Tryz.prog 27 := ⟨⟨_, Tryz.func27, by kernel_rfl, by kernel_rfl⟩⟩
theorem cf28 : CallOk Tryz.prog 28 := ⟨⟨_, Tryz.func28, by kernel_rfl, by kernel_rfl⟩⟩
theorem cf29 : CallOk Tryz.prog 29 := ⟨⟨_, Tryz.func29, by kernel_rfl, by kernel_rfl⟩⟩
theorem cf30 : CallOk Tryz.prog 30 := ⟨⟨_, Tryz.func30, by kernel_rfl, by kernel_rfl⟩⟩
theorem cf31 : CallOk Tryz.prog 31 := ⟨⟨_, Tryz.func31, by kernel_rfl, by kernel_rfl⟩⟩
theorem cf32 : CallOk Tryz.prog 32 := ⟨⟨_, Tryz.func32, by kernel_rfl, by kernel_rfl⟩⟩
theorem cf33 : CallOk Tryz.prog 33 := ⟨⟨_, Tryz.func33, by kernel_rfl, by kernel_rfl⟩⟩
theorem cf34 : CallOk Tryz.prog 34 := ⟨⟨_, Tryz.func34, by kernel_rfl, by kernel_rfl⟩⟩
theorem cf35 : CallOk Tryz.prog 35 := ⟨⟨_, Tryz.func35, by kernel_rfl, by kernel_rfl⟩⟩
theorem cf36 : CallOk Tryz.prog 36 := ⟨⟨_, Tryz.func36, by kernel_rfl, by kernel_rfl⟩⟩
theorem cf37 : CallOk Tryz.prog 37 := ⟨⟨_, Tryz.func37, by kernel_rfl, by kernel_rfl⟩⟩
theorem cf38 : CallOk Tryz.prog 38 := ⟨⟨_, Tryz.func38, by kernel_rfl, by kernel_rfl⟩⟩
theorem cf39 : CallOk Tryz.prog 39 := ⟨⟨_, Tryz.func39, by kernel_rfl, by kernel_rfl⟩⟩
theorem cf57 : CallOk Tryz.prog 57 := ⟨⟨_, Tryz.func57, by kernel_rfl, by kernel_rfl⟩⟩
theorem cf59 : CallOk Tryz.prog 59 := ⟨⟨_, Tryz.func59, by kernel_rfl, by kernel_rfl⟩⟩
theorem cf60 : CallOk Tryz.prog 60 := ⟨⟨_, Tryz.func60, by kernel_rfl, by kernel_rfl⟩⟩
theorem cf61 : CallOk Tryz.prog 61 := ⟨⟨_, Tryz.func61, by kernel_rfl, by kernel_rfl⟩⟩
theorem el9 : ElemOk Tryz.prog 9 1 := ⟨by kernel_rfl, by decide⟩
theorem el56 : ElemOk Tryz.prog 56 1 := ⟨by kernel_rfl, by decide⟩
theorem el66 : ElemOk Tryz.prog 66 5 := ⟨by kernel_rfl, by decide⟩
theorem el71 : ElemOk Tryz.prog 71 4 := ⟨by kernel_rfl, by decide⟩
theorem mix : Tryz.prog.follows .mixedOrders = true := by kernel_rfl
abbrev cGOptions (x : GOptions)  : List Value := [.int .i64 x.Data, .int .i64 x.Regs, .int .i64 x.Notes, .bool x.Plain]
abbrev cLexScanner (x : LexScanner)  : List Value := [.string ⟨x.s.toArray⟩, .int .i64 x.pos.Line, .int .i64 x.pos.Col]
abbrev cGToken (x : GToken)  : List Value := [.int .i64 x.Kind, .string ⟨x.Text.toArray⟩, .int .u32 x.Num, .int .i64 x.Pos.Line, .int .i64 x.Pos.Col]
abbrev cref07Token (x : ref07Token)  : List Value := [.int .i64 x.Kind, .string ⟨x.Text.toArray⟩, .int .u32 x.Num, .int .i64 x.At]
abbrev iv (x : Int) : Value := .int .i64 x
abbrev sv {α : Type} (a : Option Addr) (l : List α) (c : Nat) : Value := .slice a (List.length l) c
abbrev pt (b o : Nat) : Value := .pointer (some ⟨b, o, none⟩)
abbrev OA := Option Addr
abbrev JV := Nat → Value
abbrev TP := Nat → Prop

theorem image_Right_sim {p0 : GOptions} {r : Bool} (hS : Sep g T0 w0 [R])  (hm : image_Right p0 = some r) :
    Calls Tryz.prog 4 #[.agg (cGOptions p0).toArray] w0 (RetS T0 w0 fun T w v => v = .bool r ∧ Sep g T w [R] ∧ True) := by
  refine enter (args := [.agg (cGOptions p0).toArray]) Tryz.func4 rfl Tryz.ntmps4 rfl fun J => ?_
  unfold image_Right at hm
  refine sq2 (rg (wl rfl (bxS (cs := (cGOptions p0)) rfl rfl hS fun w1 b1 im1 hS1 => ?_)))
  refine pv (r_zb rfl) (nil (t_then ?_))
  refine sq2 (rg (pv (r_fa rfl underlying23 rfl sizeOf3 rfl) (pv (r_ld rfl isAgg3 (hS1.cell0 (i := 0) ⟨rfl, rfl⟩ (j := 0) rfl)) (pv (r_ib rfl rfl rfl) (pv (r_mb rfl) (?_))))))
  rcases Bool.eq_false_or_eq_true (decide (4096 ≤ p0.Data)) with hb1 | hb1
  · have hm := ctrue hb1 hm
    refine gT (d0 := 6) rfl rfl hb1 (pv (r_fa rfl underlying23 rfl sizeOf3 rfl) (gT (d0 := 6) rfl rfl hb1 (pv (r_ld rfl isAgg3 (hS1.cell0 (i := 0) ⟨rfl, rfl⟩ (j := 0) rfl)) (gT (d0 := 6) rfl rfl hb1 (pv (r_ib rfl rfl rfl) (pv (r_pkt rfl hb1 rfl) (pv (r_mb rfl) (?_))))))))
    rcases Bool.eq_false_or_eq_true (decide (p0.Data ≤ 65536)) with hb2 | hb2
    · have hm := ctrue hb2 hm
      refine gT (d0 := 11) rfl rfl hb2 (pv (r_fa rfl underlying23 rfl sizeOf3 rfl) (gT (d0 := 11) rfl rfl hb2 (pv (r_ld rfl isAgg3 (hS1.cell0 (i := 0) ⟨rfl, rfl⟩ (j := 0) rfl)) (gT (d0 := 11) rfl rfl hb2 (pv (r_irm rfl rfl (by decide)) (gT (d0 := 11) rfl rfl hb2 (pv (r_ib rfl rfl rfl) (pv (r_pkt rfl hb2 rfl) (pv (r_mb rfl) (?_))))))))))
      rcases Bool.eq_false_or_eq_true ((Int.tmod p0.Data 4) == 0) with hb3 | hb3
      · have hm := ctrue hb3 hm
        refine gT (d0 := 17) rfl rfl hb3 (pv (r_fa rfl underlying23 rfl sizeOf3 rfl) (gT (d0 := 17) rfl rfl hb3 (pv (r_ld rfl isAgg3 (hS1.cell0 (i := 0) ⟨rfl, rfl⟩ (j := 1) rfl)) (gT (d0 := 17) rfl rfl hb3 (pv (r_ib rfl rfl rfl) (pv (r_pkt rfl hb3 rfl) (pv (r_mb rfl) (?_))))))))
        rcases Bool.eq_false_or_eq_true (decide (0 ≤ p0.Regs)) with hb4 | hb4
        · have hm := ctrue hb4 hm
          refine gT (d0 := 22) rfl rfl hb4 (pv (r_fa rfl underlying23 rfl sizeOf3 rfl) (gT (d0 := 22) rfl rfl hb4 (pv (r_ld rfl isAgg3 (hS1.cell0 (i := 0) ⟨rfl, rfl⟩ (j := 1) rfl)) (gT (d0 := 22) rfl rfl hb4 (pv (r_ib rfl rfl rfl) (pv (r_pkt rfl hb4 rfl) (pv (r_mb rfl) (?_))))))))
          rcases Bool.eq_false_or_eq_true (decide (p0.Regs ≤ 12)) with hb5 | hb5
          · have hm := ctrue hb5 hm
            refine gT (d0 := 27) rfl rfl hb5 (pv (r_fa rfl underlying23 rfl sizeOf3 rfl) (gT (d0 := 27) rfl rfl hb5 (pv (r_ld rfl isAgg3 (hS1.cell0 (i := 0) ⟨rfl, rfl⟩ (j := 2) rfl)) (gT (d0 := 27) rfl rfl hb5 (pv (r_ib rfl rfl rfl) (pv (r_pkt rfl hb5 rfl) (pv (r_mb rfl) (?_))))))))
            rcases Bool.eq_false_or_eq_true (decide (2 ≤ p0.Notes)) with hb6 | hb6
            · have hm := ctrue hb6 hm
              refine gT (d0 := 32) rfl rfl hb6 (pv (r_fa rfl underlying23 rfl sizeOf3 rfl) (gT (d0 := 32) rfl rfl hb6 (pv (r_ld rfl isAgg3 (hS1.cell0 (i := 0) ⟨rfl, rfl⟩ (j := 2) rfl)) (gT (d0 := 32) rfl rfl hb6 (pv (r_ib rfl rfl rfl) (pv (r_pkt rfl hb6 rfl) (pv (r_zb rfl) (nil (t_thenR [(2, .bool (decide (p0.Notes ≤ 64)))] ⟨rfl, trivial⟩ fun J => ?_)))))))))
              have hm := oI hm; subst hm
              exact rtn (ret1 rfl rfl ⟨_, rfl, _, im1, ⟨rfl, hS1.sel [1] rfl, trivial⟩⟩)
            have hm := cfalse hb6 hm
            refine gF (d0 := 32) rfl rfl (by rw [hb6]; rfl) (gF (d0 := 32) rfl rfl (by rw [hb6]; rfl) (gF (d0 := 32) rfl rfl (by rw [hb6]; rfl) (pv (r_pkf rfl hb6 rfl) (pv (r_zb rfl) (nil (t_thenR [(2, .bool false)] ⟨rfl, trivial⟩ fun J => ?_))))))
            have hm := oI hm; subst hm
            exact rtn (ret1 rfl rfl ⟨_, rfl, _, im1, ⟨rfl, hS1.sel [1] rfl, trivial⟩⟩)
          have hm := cfalse hb5 hm
          refine gF (d0 := 27) rfl rfl (by rw [hb5]; rfl) (gF (d0 := 27) rfl rfl (by rw [hb5]; rfl) (gF (d0 := 27) rfl rfl (by rw [hb5]; rfl) (pv (r_pkf rfl hb5 rfl) (pv (r_mb rfl) (gF (d0 := 32) rfl rfl rfl (gF (d0 := 32) rfl rfl rfl (gF (d0 := 32) rfl rfl rfl (pv (r_pkf rfl rfl rfl) (pv (r_zb rfl) (nil (t_thenR [(2, .bool false)] ⟨rfl, trivial⟩ fun J => ?_)))))))))))
          have hm := oI hm; subst hm
          exact rtn (ret1 rfl rfl ⟨_, rfl, _, im1, ⟨rfl, hS1.sel [1] rfl, trivial⟩⟩)
        have hm := cfalse hb4 hm
        refine gF (d0 := 22) rfl rfl (by rw [hb4]; rfl) (gF (d0 := 22) rfl rfl (by rw [hb4]; rfl) (gF (d0 := 22) rfl rfl (by rw [hb4]; rfl) (pv (r_pkf rfl hb4 rfl) (pv (r_mb rfl) (gF (d0 := 27) rfl rfl rfl (gF (d0 := 27) rfl rfl rfl (gF (d0 := 27) rfl rfl rfl (pv (r_pkf rfl rfl rfl) (pv (r_mb rfl) (gF (d0 := 32) rfl rfl rfl (gF (d0 := 32) rfl rfl rfl (gF (d0 := 32) rfl rfl rfl (pv (r_pkf rfl rfl rfl) (pv (r_zb rfl) (nil (t_thenR [(2, .bool false)] ⟨rfl, trivial⟩ fun J => ?_))))))))))))))))
        have hm := oI hm; subst hm
        exact rtn (ret1 rfl rfl ⟨_, rfl, _, im1, ⟨rfl, hS1.sel [1] rfl, trivial⟩⟩)
      have hm := cfalse hb3 hm
      refine gF (d0 := 17) rfl rfl (by rw [hb3]; rfl) (gF (d0 := 17) rfl rfl (by rw [hb3]; rfl) (gF (d0 := 17) rfl rfl (by rw [hb3]; rfl) (pv (r_pkf rfl hb3 rfl) (pv (r_mb rfl) (gF (d0 := 22) rfl rfl rfl (gF (d0 := 22) rfl rfl rfl (gF (d0 := 22) rfl rfl rfl (pv (r_pkf rfl rfl rfl) (pv (r_mb rfl) (gF (d0 := 27) rfl rfl rfl (gF (d0 := 27) rfl rfl rfl (gF (d0 := 27) rfl rfl rfl (pv (r_pkf rfl rfl rfl) (pv (r_mb rfl) (gF (d0 := 32) rfl rfl rfl (gF (d0 := 32) rfl rfl rfl (gF (d0 := 32) rfl rfl rfl (pv (r_pkf rfl rfl rfl) (pv (r_zb rfl) (nil (t_thenR [(2, .bool false)] ⟨rfl, trivial⟩ fun J => ?_)))))))))))))))))))))
      have hm := oI hm; subst hm
      exact rtn (ret1 rfl rfl ⟨_, rfl, _, im1, ⟨rfl, hS1.sel [1] rfl, trivial⟩⟩)
    have hm := cfalse hb2 hm
    refine gF (d0 := 11) rfl rfl (by rw [hb2]; rfl) (gF (d0 := 11) rfl rfl (by rw [hb2]; rfl) (gF (d0 := 11) rfl rfl (by rw [hb2]; rfl) (gF (d0 := 11) rfl rfl (by rw [hb2]; rfl) (pv (r_pkf rfl hb2 rfl) (pv (r_mb rfl) (gF (d0 := 17) rfl rfl rfl (gF (d0 := 17) rfl rfl rfl (gF (d0 := 17) rfl rfl rfl (pv (r_pkf rfl rfl rfl) (pv (r_mb rfl) (gF (d0 := 22) rfl rfl rfl (gF (d0 := 22) rfl rfl rfl (gF (d0 := 22) rfl rfl rfl (pv (r_pkf rfl rfl rfl) (pv (r_mb rfl) (gF (d0 := 27) rfl rfl rfl (gF (d0 := 27) rfl rfl rfl (gF (d0 := 27) rfl rfl rfl (pv (r_pkf rfl rfl rfl) (pv (r_mb rfl) (gF (d0 := 32) rfl rfl rfl (gF (d0 := 32) rfl rfl rfl (gF (d0 := 32) rfl rfl rfl (pv (r_pkf rfl rfl rfl) (pv (r_zb rfl) (nil (t_thenR [(2, .bool false)] ⟨rfl, trivial⟩ fun J => ?_)))))))))))))))))))))))))))
    have hm := oI hm; subst hm
    exact rtn (ret1 rfl rfl ⟨_, rfl, _, im1, ⟨rfl, hS1.sel [1] rfl, trivial⟩⟩)
  have hm := cfalse hb1 hm
  refine gF (d0 := 6) rfl rfl (by rw [hb1]; rfl) (gF (d0 := 6) rfl rfl (by rw [hb1]; rfl) (gF (d0 := 6) rfl rfl (by rw [hb1]; rfl) (pv (r_pkf rfl hb1 rfl) (pv (r_mb rfl) (gF (d0 := 11) rfl rfl rfl (gF (d0 := 11) rfl rfl rfl (gF (d0 := 11) rfl rfl rfl (gF (d0 := 11) rfl rfl rfl (pv (r_pkf rfl rfl rfl) (pv (r_mb rfl) (gF (d0 := 17) rfl rfl rfl (gF (d0 := 17) rfl rfl rfl (gF (d0 := 17) rfl rfl rfl (pv (r_pkf rfl rfl rfl) (pv (r_mb rfl) (gF (d0 := 22) rfl rfl rfl (gF (d0 := 22) rfl rfl rfl (gF (d0 := 22) rfl rfl rfl (pv (r_pkf rfl rfl rfl) (pv (r_mb rfl) (gF (d0 := 27) rfl rfl rfl (gF (d0 := 27) rfl rfl rfl (gF (d0 := 27) rfl rfl rfl (pv (r_pkf rfl rfl rfl) (pv (r_mb rfl) (gF (d0 := 32) rfl rfl rfl (gF (d0 := 32) rfl rfl rfl (gF (d0 := 32) rfl rfl rfl (pv (r_pkf rfl rfl rfl) (pv (r_zb rfl) (nil (t_thenR [(2, .bool false)] ⟨rfl, trivial⟩ fun J => ?_))))))))))))))))))))))))))))))))
  have hm := oI hm; subst hm
  exact rtn (ret1 rfl rfl ⟨_, rfl, _, im1, ⟨rfl, hS1.sel [1] rfl, trivial⟩⟩)

theorem stringslite_HasPrefix_sim {p0 : List UInt8} {p1 : List UInt8} {r : Bool} (hS : Sep g T0 w0 [R])  (hm : stringslite_HasPrefix p0 p1 = some r) :
    Calls Tryz.prog 57 #[.string ⟨p0.toArray⟩, .string ⟨p1.toArray⟩] w0 (RetS T0 w0 fun T w v => v = .bool r ∧ Sep g T w [R] ∧ True) := by
  refine enter (args := [.string ⟨p0.toArray⟩, .string ⟨p1.toArray⟩]) Tryz.func57 rfl Tryz.ntmps57 rfl fun J => ?_
  unfold stringslite_HasPrefix at hm
  refine sq2 (rg (pv (r_zb rfl) (nil (t_then ?_))))
  refine sq2 (rg (pv (r_mt rfl) (pv (r_lnt rfl underlying9) (pv (r_mt rfl) (pv (r_lnt rfl underlying9) (pv (r_ib rfl rfl rfl) (pv (r_mb rfl) (?_))))))))
  rcases Bool.eq_false_or_eq_true (decide ((List.length p1 : Int) ≤ (List.length p0 : Int))) with hb1 | hb1
  · have hm := ctrue hb1 hm
    obtain ⟨u1, hx1, hm⟩ := bindS hm
    refine gT (d0 := 10) rfl rfl hb1 (pv (r_mt rfl) (gT (d0 := 10) rfl rfl hb1 (pv (r_mt rfl) (gT (d0 := 10) rfl rfl hb1 (pv (r_lnt rfl underlying9) (gT (d0 := 10) rfl rfl hb1 (pv (r_ss rfl rfl ⟨_, rfl⟩ hx1 underlying9) (gT (d0 := 10) rfl rfl hb1 (pv (r_mt rfl) (gT (d0 := 10) rfl rfl hb1 (pv (r_sqL rfl rfl) (pv (r_pkt rfl hb1 rfl) (pv (r_zb rfl) (nil (t_then ?_)))))))))))))))
    have hm := oI hm; subst hm
    exact rtn (ret1 rfl rfl ⟨_, rfl, _, Im.refl, ⟨rfl, hS.sel [0] rfl, trivial⟩⟩)
  have hm := cfalse hb1 hm
  refine gF (d0 := 10) rfl rfl (by rw [hb1]; rfl) (gF (d0 := 10) rfl rfl (by rw [hb1]; rfl) (gF (d0 := 10) rfl rfl (by rw [hb1]; rfl) (gF (d0 := 10) rfl rfl (by rw [hb1]; rfl) (gF (d0 := 10) rfl rfl (by rw [hb1]; rfl) (gF (d0 := 10) rfl rfl (by rw [hb1]; rfl) (pv (r_pkf rfl hb1 rfl) (pv (r_zb rfl) (nil (t_then ?_)))))))))
  have hm := oI hm; subst hm
  exact rtn (ret1 rfl rfl ⟨_, rfl, _, Im.refl, ⟨rfl, hS.sel [0] rfl, trivial⟩⟩)

theorem strings_HasPrefix_sim {p0 : List UInt8} {p1 : List UInt8} {r : Bool} (hS : Sep g T0 w0 [R])  (hm : strings_HasPrefix p0 p1 = some r) :
    Calls Tryz.prog 21 #[.string ⟨p0.toArray⟩, .string ⟨p1.toArray⟩] w0 (RetS T0 w0 fun T w v => v = .bool r ∧ Sep g T w [R] ∧ True) := by
  refine enter (args := [.string ⟨p0.toArray⟩, .string ⟨p1.toArray⟩]) Tryz.func21 rfl Tryz.ntmps21 rfl fun J => ?_
  unfold strings_HasPrefix at hm
  refine sq2 (rg (pv (r_zb rfl) (nil (t_then ?_))))
  refine sq2 ?_
  obtain ⟨y1, hx1, hm⟩ := bindS hm
  refine rg (pv (r_mt rfl) (pv (r_mt rfl) (wl rfl (calS cf57 rfl (stringslite_HasPrefix_sim (p0 := p0) (p1 := p1) (hS.bun [0] [] rfl)  hx1) rfl fun v1 T1 w1 im1 rv1 => ?_))))
  obtain ⟨rfl, hS1, _⟩ := rv1
  have hS1 := hS1.unb
  refine pv (r_zb rfl) (nil (t_then ?_))
  have hm := oI hm; subst hm
  exact rtn (ret1 rfl rfl ⟨_, rfl, _, im1, ⟨rfl, hS1.sel [0] rfl, trivial⟩⟩)

theorem lex_blank_1_sim {p0 : Int} {r : Bool} (hS : Sep g T0 w0 [R])  (hm : lex_blank_1 p0 = some r) :
    Calls Tryz.prog 24 #[.int .u8 p0] w0 (RetS T0 w0 fun T w v => v = .bool r ∧ Sep g T w [R] ∧ True) := by
  refine enter (args := [.int .u8 p0]) Tryz.func24 rfl Tryz.ntmps24 rfl fun J => ?_
  unfold lex_blank_1 at hm
  refine sq2 (rg (pv (r_zb rfl) (nil (t_then ?_))))
  refine sq2 (rg (pv (r_mi rfl) (pv (r_ib rfl rfl rfl) (pv (r_mb rfl) (?_)))))
  rcases Bool.eq_false_or_eq_true (p0 == 32) with hb1 | hb1
  · have hm := ctrue hb1 hm
    refine gF (d0 := 5) rfl rfl (by rw [hb1]; rfl) (gF (d0 := 5) rfl rfl (by rw [hb1]; rfl) (pv (r_pkt rfl hb1 rfl) (pv (r_mb rfl) (gF (d0 := 9) rfl rfl rfl (gF (d0 := 9) rfl rfl rfl (pv (r_pkt rfl rfl rfl) (pv (r_mb rfl) (gF (d0 := 13) rfl rfl rfl (gF (d0 := 13) rfl rfl rfl (pv (r_pkt rfl rfl rfl) (pv (r_zb rfl) (nil (t_then ?_)))))))))))))
    have hm := oI hm; subst hm
    exact rtn (ret1 rfl rfl ⟨_, rfl, _, Im.refl, ⟨rfl, hS.sel [0] rfl, trivial⟩⟩)
  have hm := cfalse hb1 hm
  refine gT (d0 := 5) rfl rfl hb1 (pv (r_mi rfl) (gT (d0 := 5) rfl rfl hb1 (pv (r_ib rfl rfl rfl) (pv (r_pkf rfl hb1 rfl) (pv (r_mb rfl) (?_))))))
  rcases Bool.eq_false_or_eq_true (p0 == 9) with hb2 | hb2
  · have hm := ctrue hb2 hm
    refine gF (d0 := 9) rfl rfl (by rw [hb2]; rfl) (gF (d0 := 9) rfl rfl (by rw [hb2]; rfl) (pv (r_pkt rfl hb2 rfl) (pv (r_mb rfl) (gF (d0 := 13) rfl rfl rfl (gF (d0 := 13) rfl rfl rfl (pv (r_pkt rfl rfl rfl) (pv (r_zb rfl) (nil (t_then ?_)))))))))
    have hm := oI hm; subst hm
    exact rtn (ret1 rfl rfl ⟨_, rfl, _, Im.refl, ⟨rfl, hS.sel [0] rfl, trivial⟩⟩)
  have hm := cfalse hb2 hm
  refine gT (d0 := 9) rfl rfl hb2 (pv (r_mi rfl) (gT (d0 := 9) rfl rfl hb2 (pv (r_ib rfl rfl rfl) (pv (r_pkf rfl hb2 rfl) (pv (r_mb rfl) (?_))))))
  rcases Bool.eq_false_or_eq_true (p0 == 10) with hb3 | hb3
  · have hm := ctrue hb3 hm
    refine gF (d0 := 13) rfl rfl (by rw [hb3]; rfl) (gF (d0 := 13) rfl rfl (by rw [hb3]; rfl) (pv (r_pkt rfl hb3 rfl) (pv (r_zb rfl) (nil (t_then ?_)))))
    have hm := oI hm; subst hm
    exact rtn (ret1 rfl rfl ⟨_, rfl, _, Im.refl, ⟨rfl, hS.sel [0] rfl, trivial⟩⟩)
  have hm := cfalse hb3 hm
  refine gT (d0 := 13) rfl rfl hb3 (pv (r_mi rfl) (gT (d0 := 13) rfl rfl hb3 (pv (r_ib rfl rfl rfl) (pv (r_pkf rfl hb3 rfl) (pv (r_zb rfl) (nil (t_then ?_)))))))
  have hm := oI hm; subst hm
  exact rtn (ret1 rfl rfl ⟨_, rfl, _, Im.refl, ⟨rfl, hS.sel [0] rfl, trivial⟩⟩)

theorem lex_span_sim {p0 : List UInt8} {r : Int} (hS : Sep g T0 w0 [R])  (hm : lex_span p0 = some r) :
    Calls Tryz.prog 23 #[.string ⟨p0.toArray⟩, .func (.func 24) #[] #[]] w0 (RetS T0 w0 fun T w v => v = iv r ∧ Sep g T w [R] ∧ True) := by
  refine enter (args := [.string ⟨p0.toArray⟩, .func (.func 24) #[] #[]]) Tryz.func23 rfl Tryz.ntmps23 rfl fun J => ?_
  unfold lex_span at hm
  refine sq2 (rg (pv (r_zi rfl) (nil (t_then ?_))))
  refine sq2 (rg (pv (r_zi rfl) (nil (t_then ?_))))
  refine sq2 ?_
  obtain ⟨o1, ho1, hq1⟩ := bindS hm
  obtain ⟨bd1, hbd1, ho1⟩ := loop_open ho1
  refine blk (wp_loop_ghost (fun m a w1 => ∃ (J : JV) (T1 : TP) (x1 : Int), a = env (nf 20) J [(0, .string ⟨p0.toArray⟩), (1, .func (.func 24) #[] #[]), (5, iv x1)] ∧ Im T0 w0 T1 w1 ∧ Sep g T1 w1 [R] ∧ loopM bd1 m x1 = some o1) NN ⟨_, _, 0, env_has ⟨rfl, rfl, rfl, trivial⟩, Im.refl, hS.sel [0] rfl, ho1⟩ ?_)
  rintro m _ w1 ⟨J, T1, x1, rfl, im1, hS1, ho1⟩
  obtain ⟨m1, z1, rfl, hm, hn1⟩ := loop_round ho1
  rw [hbd1] at hm
  refine sq2 (sq2 (rg (pv (r_mi rfl) (pv (r_mt rfl) (pv (r_lnt rfl underlying9) (pv (r_ib rfl rfl rfl) (pv (r_mb rfl) (?_))))))))
  rcases Bool.eq_false_or_eq_true (decide (x1 < (List.length p0 : Int))) with hb1 | hb1
  · have hm := ctrue hb1 hm
    obtain ⟨u1, hx1, hm⟩ := bindS hm
    obtain ⟨y1, hx2, hm⟩ := bindS hm
    refine gT (d0 := 10) rfl rfl hb1 (pv (r_mf rfl) (gT (d0 := 10) rfl rfl hb1 (pv (r_mt rfl) (gT (d0 := 10) rfl rfl hb1 (pv (r_mi rfl) (gT (d0 := 10) rfl rfl hb1 (pv (r_sx rfl rfl hx1 underlying9) (gT (d0 := 10) rfl rfl hb1 (wl rfl (calS cf24 rfl (lex_blank_1_sim (p0 := (UInt8.toNat u1 : Int)) (hS1.bun [0] [] rfl)  hx2) rfl fun v1 T2 w2 im2 rv1 => ?_))))))))))
    obtain ⟨rfl, hS2, _⟩ := rv1
    have hS2 := hS2.unb
    refine pv (r_pkt rfl hb1 rfl) (nil (t_then ?_))
    refine cnd rfl (fun hb2 => ?_) (fun hb2 => ?_)
    · have hm := ctrue hb2 hm
      refine skp (t_then ?_)
      refine blk ?_
      have hm := oI hm; subst hm
      exact rg (pv (r_mi rfl) (pv (r_ib rfl rfl rfl) (pv (r_zi rfl) (nil (t_blk (t_then ⟨m1, Nat.lt_succ_self _, _, _, (IntKind.wrap .i64 (x1 + 1)), env_has ⟨rfl, rfl, rfl, trivial⟩, (iT im1 im2), hS2.sel [0] rfl, hn1⟩))))))
    have hm := cfalse hb2 hm
    have hm := oI hm; subst hm
    have hn1 : _ = Lp.brk _ := hn1
    subst hn1
    have hm := thn_brk hq1
    refine xt (x_then (x_then (x_eq (t_then ?_))))
    refine sq2 (rg (pv (r_mi rfl) (pv (r_zi rfl) (nil (t_then ?_)))))
    have hm := oI hm; subst hm
    exact rtn (ret1 rfl rfl ⟨_, rfl, _, (iT im1 im2), ⟨rfl, hS2.sel [0] rfl, trivial⟩⟩)
  have hm := cfalse hb1 hm
  refine gF (d0 := 10) rfl rfl (by rw [hb1]; rfl) (gF (d0 := 10) rfl rfl (by rw [hb1]; rfl) (gF (d0 := 10) rfl rfl (by rw [hb1]; rfl) (gF (d0 := 10) rfl rfl (by rw [hb1]; rfl) (gF (d0 := 10) rfl rfl (by rw [hb1]; rfl) (pv (r_pkf rfl hb1 rfl) (nil (t_then ?_)))))))
  refine cnd (b := false) rfl (fun h => nomatch h) (fun _ => ?_)
  have hm := oI hm; subst hm
  have hn1 : _ = Lp.brk _ := hn1
  subst hn1
  have hm := thn_brk hq1
  refine xt (x_then (x_then (x_eq (t_then ?_))))
  refine sq2 (rg (pv (r_mi rfl) (pv (r_zi rfl) (nil (t_then ?_)))))
  have hm := oI hm; subst hm
  exact rtn (ret1 rfl rfl ⟨_, rfl, _, im1, ⟨rfl, hS1.sel [0] rfl, trivial⟩⟩)

theorem lex_blank_sim {p0 : List UInt8} {r : Int} (hS : Sep g T0 w0 [R]) (hG0 : Gi T0 w0 0) (hm : lex_blank p0 = some r) :
    Calls Tryz.prog 10 #[.string ⟨p0.toArray⟩] w0 (RetS T0 w0 fun T w v => v = iv r ∧ Sep g T w [R] ∧ True) := by
  refine enter (args := [.string ⟨p0.toArray⟩]) Tryz.func10 rfl Tryz.ntmps10 rfl fun J => ?_
  unfold lex_blank at hm
  refine sq2 (rg (pv (r_zi rfl) (nil (t_then ?_))))
  refine sq2 (sq2 ?_)
  obtain ⟨y1, hx1, hm⟩ := bindS hm
  refine rg (pv (r_mt rfl) (wl rfl (calS cf21 rfl (strings_HasPrefix_sim (p0 := p0) (p1 := ([47, 47] : List UInt8)) (hS.bun [0] [] rfl)  hx1) rfl fun v1 T1 w1 im1 rv1 => ?_)))
  obtain ⟨rfl, hS1, _⟩ := rv1
  have hS1 := hS1.unb
  refine nil (t_then ?_)
  refine cnd rfl (fun hb1 => ?_) (fun hb1 => ?_)
  · have hm := ctrue hb1 hm
    refine sq2 (sq2 ?_)
    obtain ⟨y2, hx2, hm⟩ := bindS hm
    refine rg (pv (r_mt rfl) (wl rfl (calS cf22 rfl (strings_Index_sim (p0 := p0) (p1 := ([10] : List UInt8)) (hS1.bun [0] [] rfl) (hG0.mono im1) hx2) rfl fun v2 T2 w2 im2 rv2 => ?_)))
    obtain ⟨rfl, hS2, _⟩ := rv2
    have hS2 := hS2.unb
    refine pv (r_zi rfl) (nil (t_then ?_))
    refine sq2 (rg (pv (r_mi rfl) (pv (r_ib rfl rfl rfl) (nil (t_then ?_)))))
    refine cnd rfl (fun hb2 => ?_) (fun hb2 => ?_)
    · have hm := ctrue hb2 hm
      refine sq2 (rg (pv (r_mi rfl) (pv (r_zi rfl) (nil (t_then ?_)))))
      have hm := oI hm; subst hm
      exact rtn (r_then (r_then (ret1 rfl rfl ⟨_, rfl, _, (iT im1 im2), ⟨rfl, hS2.sel [0] rfl, trivial⟩⟩)))
    have hm := cfalse hb2 hm
    refine skp (t_then ?_)
    refine sq2 (rg (pv (r_mt rfl) (pv (r_lnt rfl underlying9) (pv (r_zi rfl) (nil (t_then ?_))))))
    have hm := oI hm; subst hm
    exact rtn (r_then (ret1 rfl rfl ⟨_, rfl, _, (iT im1 im2), ⟨rfl, hS2.sel [0] rfl, trivial⟩⟩))
  have hm := cfalse hb1 hm
  refine skp (t_then ?_)
  refine sq2 (sq2 ?_)
  obtain ⟨y3, hx3, hm⟩ := bindS hm
  refine rg (pv (r_mt rfl) (wl rfl (calS cf21 rfl (strings_HasPrefix_sim (p0 := p0) (p1 := ([47, 42] : List UInt8)) (hS1.bun [0] [] rfl)  hx3) rfl fun v3 T3 w3 im3 rv3 => ?_)))
  obtain ⟨rfl, hS3, _⟩ := rv3
  have hS3 := hS3.unb
  refine nil (t_then ?_)
  refine cnd rfl (fun hb3 => ?_) (fun hb3 => ?_)
  · have hm := ctrue hb3 hm
    refine sq2 ?_
    obtain ⟨u1, hx4, hm⟩ := bindS hm
    obtain ⟨y4, hx5, hm⟩ := bindS hm
    refine rg (pv (r_mt rfl) (pv (r_ss rfl ⟨_, rfl⟩ rfl hx4 underlying9) (wl rfl (calS cf22 rfl (strings_Index_sim (p0 := u1) (p1 := ([42, 47] : List UInt8)) (hS3.bun [0] [] rfl) (hG0.mono (iT im1 im3)) hx5) rfl fun v4 T4 w4 im4 rv4 => ?_))))
    obtain ⟨rfl, hS4, _⟩ := rv4
    have hS4 := hS4.unb
    refine pv (r_zi rfl) (nil (t_then ?_))
    refine sq2 (sq2 (rg (pv (r_mi rfl) (pv (r_ib rfl rfl rfl) (nil (t_then ?_))))))
    refine cnd rfl (fun hb4 => ?_) (fun hb4 => ?_)
    · have hm := ctrue hb4 hm
      refine sq2 (rg (pv (r_zi rfl) (nil (t_then ?_))))
      have hm := oI hm; subst hm
      exact rtn (r_then (r_then (ret1 rfl rfl ⟨_, rfl, _, (iT im1 (iT im3 im4)), ⟨rfl, hS4.sel [0] rfl, trivial⟩⟩)))
    have hm := cfalse hb4 hm
    refine skp (t_then ?_)
    refine sq2 (rg (pv (r_mi rfl) (pv (r_ib rfl rfl rfl) (pv (r_zi rfl) (nil (t_then ?_))))))
    have hm := oI hm; subst hm
    exact rtn (r_then (ret1 rfl rfl ⟨_, rfl, _, (iT im1 (iT im3 im4)), ⟨rfl, hS4.sel [0] rfl, trivial⟩⟩))
  have hm := cfalse hb3 hm
  refine skp (t_then ?_)
  refine sq2 ?_
  obtain ⟨y5, hx6, hm⟩ := bindS hm
  refine rg (pv (r_mt rfl) (wl rfl (calS cf23 rfl (lex_span_sim (p0 := p0) (hS3.bun [0] [] rfl)  hx6) rfl fun v5 T5 w5 im5 rv5 => ?_)))
  obtain ⟨rfl, hS5, _⟩ := rv5
  have hS5 := hS5.unb
  refine pv (r_zi rfl) (nil (t_then ?_))
  have hm := oI hm; subst hm
  exact rtn (ret1 rfl rfl ⟨_, rfl, _, (iT im1 (iT im3 im5)), ⟨rfl, hS5.sel [0] rfl, trivial⟩⟩)

theorem lex_scanner_skip_sim {p0 : LexScanner} {b_p0 o_p0 : Nat} {H_p0 : List Value → Assn} {p1 : Int} {r : LexScanner} (hS : Sep g T0 w0 [R, H_p0 (cLexScanner p0)]) (hL_p0 : Ln b_p0 o_p0 H_p0) (hm : lex_scanner_skip p0 p1 = some r) :
    Calls Tryz.prog 11 #[pt b_p0 o_p0, iv p1] w0 (RetS T0 w0 fun T w v => v = .tuple #[] ∧ Sep g T w [R, H_p0 (cLexScanner r)] ∧ True) := by
  refine enter (args := [pt b_p0 o_p0, iv p1]) Tryz.func11 rfl Tryz.ntmps11 rfl fun J => ?_
  unfold lex_scanner_skip at hm
  refine sq2 (sq2 ?_)
  obtain ⟨u1, hx1, hm⟩ := bindS hm
  obtain ⟨z_1, hro1, hm⟩ := bindS hm
  refine rg (pv (r_mp rfl) (pv (r_nc rfl) (pv (r_fa rfl underlying62 rfl sizeOf9 rfl) (pv (r_ld rfl isAgg9 (hS.cellB (i := 1) ⟨rfl, rfl⟩ hL_p0 (j := 0) rfl)) (pv (r_mi rfl) (pv (r_ss rfl rfl ⟨_, rfl⟩ hx1 underlying9) (wl rfl (cvB hS rfl underlying9 underlying37 underlying5 (room_some hro1) fun T1 w1 a1 c1 im1 hS1 h1 => ?_))))))))
  refine pv (r_ln rfl underlying37) (pv (r_mi rfl) (nil (t_then ?_)))
  obtain ⟨o1, ho1, hq1⟩ := bindS hm
  obtain ⟨bd1, hbd1, ho1⟩ := loop_open ho1
  refine blk (wp_loop_ghost (fun m a w2 => ∃ (J : JV) (T2 : TP) (x2 : LexScanner) (x1 : Int), a = env (nf 49) J [(0, pt b_p0 o_p0), (1, iv p1), (12, .slice a1 (List.length (strBytes u1)) c1), (13, iv (List.length (strBytes u1) : Int)), (14, iv x1)] ∧ Im T1 w1 T2 w2 ∧ Sep g T2 w2 [R, H_p0 (cLexScanner x2)] ∧ loopM bd1 m (x1, x2) = some o1) NN ⟨_, _, p0, 0, env_has ⟨rfl, rfl, rfl, rfl, rfl, trivial⟩, Im.refl, hS1.sel [0, 1] rfl, ho1⟩ ?_)
  rintro m _ w2 ⟨J, T2, x2, x1, rfl, im2, hS2, ho1⟩
  obtain ⟨m1, z1, rfl, hm, hn1⟩ := loop_round ho1
  rw [hbd1] at hm
  refine sq2 (rg (pv (r_ib rfl rfl rfl) (nil (t_then ?_))))
  refine sq2 (cnd rfl (fun hb1 => ?_) (fun hb1 => ?_))
  · have hm := ctrue hb1 hm
    refine skp (t_then ?_)
    obtain ⟨kk1, hkk1, hm⟩ := jn_open hm
    refine cut (fun a w3 => ∃ (J : JV) (T3 : TP) (x3 : LexScanner), a = env (nf 49) J [(0, pt b_p0 o_p0), (1, iv p1), (12, .slice a1 (List.length (strBytes u1)) c1), (13, iv (List.length (strBytes u1) : Int)), (14, iv x1)] ∧ Im T2 w2 T3 w3 ∧ Sep g T3 w3 [R, H_p0 (cLexScanner x3)] ∧ kk1 x3 = some z1) ?_ ?_
    · refine blk (sq2 ?_)
      obtain ⟨u2, hx2, hm⟩ := bindS hm
      obtain ⟨b1, of1, cs1, k1, cp1, hv1, hp1, hl1, he1, hr1, hc1, hT1⟩ := (h1.mono im2).ixT hx2 rfl
      cases hr1
      refine rg (pv (r_ixe hv1 rfl underlying37 sizeOf5 hp1 hl1 he1) (pv (r_ld rfl isAgg5 (hc1.get (j := 0) rfl)) (pv (r_zi rfl) (nil (t_then ?_)))))
      refine sq2 (rg (pv (r_mp rfl) (pv (r_nc rfl) (pv (r_fa rfl underlying62 rfl sizeOf28 rfl) (pv (r_fa rfl underlying28 rfl sizeOf3 rfl) (pv (r_ld rfl isAgg3 (hS2.cellB (i := 1) ⟨rfl, rfl⟩ hL_p0 (j := 2) rfl)) (pv (r_ib rfl rfl rfl) (pv (r_nc rfl) (pv (r_fa rfl underlying62 rfl sizeOf28 rfl) (pv (r_fa rfl underlying28 rfl sizeOf3 rfl) (wl rfl (stB (q := 1) (j := 2) hS2 ⟨rfl, rfl⟩ hL_p0 rfl rfl rfl sizeOf3 rfl rfl rfl fun w4 im4 hS3 => ?_))))))))))))
      refine nil (t_then ?_)
      refine sq2 (rg (pv (r_mi rfl) (pv (r_ib rfl rfl rfl) (nil (t_then ?_)))))
      refine cnd rfl (fun hb2 => ?_) (fun hb2 => ?_)
      · have hm := ctrue hb2 hm
        refine rg (pv (r_mp rfl) (pv (r_mp rfl) (pv (r_nc rfl) (pv (r_fa rfl underlying62 rfl sizeOf28 rfl) (pv (r_fa rfl underlying28 rfl sizeOf3 rfl) (pv (r_ld rfl isAgg3 (hS3.cellB (i := 1) ⟨rfl, rfl⟩ hL_p0 (j := 1) rfl)) (pv (r_ib rfl rfl rfl) (pv (r_bd (by kernel_rfl) rfl (u := .agg #[iv (IntKind.wrap .i64 (x2.pos.Line + 1)), iv 1])) (pv (r_nc rfl) (pv (r_fa rfl underlying62 rfl sizeOf28 rfl) (wl rfl (stB (q := 1) (j := 1) hS3 ⟨rfl, rfl⟩ hL_p0 rfl rfl rfl sizeOf28 rfl rfl rfl fun w5 im5 hS4 => ?_))))))))))))
        exact nil (t_blk (t_then ⟨_, _, (⟨x2.s, (⟨IntKind.wrap .i64 (x2.pos.Line + 1), 1⟩ : Pos)⟩ : LexScanner), env_has ⟨rfl, rfl, rfl, rfl, rfl, trivial⟩, (iT im4 im5), hS4.sel [0, 1] rfl, hm⟩))
      have hm := cfalse hb2 hm
      exact skp (t_blk (t_then ⟨_, _, (⟨x2.s, (⟨x2.pos.Line, IntKind.wrap .i64 (x2.pos.Col + 1)⟩ : Pos)⟩ : LexScanner), env_has ⟨rfl, rfl, rfl, rfl, rfl, trivial⟩, im4, hS3.sel [0, 1] rfl, hm⟩))
    rintro _ w3 ⟨J, T3, x3, rfl, im3, hS5, hm⟩
    rw [hkk1] at hm
    have hm := oI hm; subst hm
    exact rg (pv (r_ib rfl rfl rfl) (pv (r_mi rfl) (nil (t_then ⟨m1, Nat.lt_succ_self _, _, _, x3, (IntKind.wrap .i64 (x1 + 1)), env_has ⟨rfl, rfl, rfl, rfl, rfl, trivial⟩, (iT im2 im3), hS5.sel [0, 1] rfl, hn1⟩))))
  have hm := cfalse hb1 hm
  have hm := oI hm; subst hm
  have hn1 : _ = Lp.brk _ := hn1
  subst hn1
  have hm := thn_brk hq1
  refine xt (x_then (x_then (x_eq (t_then ?_))))
  obtain ⟨u3, hx3, hm⟩ := bindS hm
  refine rg (pv (r_mp rfl) (pv (r_mp rfl) (pv (r_nc rfl) (pv (r_fa rfl underlying62 rfl sizeOf9 rfl) (pv (r_ld rfl isAgg9 (hS2.cellB (i := 1) ⟨rfl, rfl⟩ hL_p0 (j := 0) rfl)) (pv (r_mi rfl) (pv (r_ss rfl ⟨_, rfl⟩ rfl hx3 underlying9) (pv (r_nc rfl) (pv (r_fa rfl underlying62 rfl sizeOf9 rfl) (wl rfl (stB (q := 1) (j := 0) hS2 ⟨rfl, rfl⟩ hL_p0 rfl rfl rfl sizeOf9 rfl rfl rfl fun w6 im6 hS6 => ?_)))))))))))
  have hm := oI hm; subst hm
  exact nil (end0 rfl ⟨_, rfl, _, (iT im1 (iT im2 im6)), ⟨rfl, hS6.sel [0, 1] rfl, trivial⟩⟩)

theorem lex_letter_sim {p0 : Int} {r : Bool} (hS : Sep g T0 w0 [R])  (hm : lex_letter p0 = some r) :
    Calls Tryz.prog 25 #[.int .u8 p0] w0 (RetS T0 w0 fun T w v => v = .bool r ∧ Sep g T w [R] ∧ True) := by
  refine enter (args := [.int .u8 p0]) Tryz.func25 rfl Tryz.ntmps25 rfl fun J => ?_
  unfold lex_letter at hm
  refine sq2 (rg (pv (r_zb rfl) (nil (t_then ?_))))
  refine sq2 (rg (pv (r_mi rfl) (pv (r_ib rfl rfl rfl) (pv (r_mb rfl) (?_)))))
  rcases Bool.eq_false_or_eq_true (decide (97 ≤ p0)) with hb1 | hb1
  · have hm := ctrue hb1 hm
    refine gT (d0 := 5) rfl rfl hb1 (pv (r_mi rfl) (gT (d0 := 5) rfl rfl hb1 (pv (r_ib rfl rfl rfl) (pv (r_pkt rfl hb1 rfl) (pv (r_mb rfl) (?_))))))
    rcases Bool.eq_false_or_eq_true (decide (p0 ≤ 122)) with hb2 | hb2
    · have hm := ctrue hb2 hm
      refine gF (d0 := 9) rfl rfl (by rw [hb2]; rfl) (gF (d0 := 9) rfl rfl (by rw [hb2]; rfl) (gF (d0 := 9) rfl rfl (by rw [hb2]; rfl) (gU (d0 := 12) rfl rfl (gU (d0 := 12) rfl rfl (gF (d0 := 9) rfl rfl (by rw [hb2]; rfl) (pv (r_pkt rfl hb2 rfl) (pv (r_mb rfl) (gF (d0 := 17) rfl rfl rfl (gF (d0 := 17) rfl rfl rfl (pv (r_pkt rfl rfl rfl) (pv (r_zb rfl) (nil (t_then ?_)))))))))))))
      have hm := oI hm; subst hm
      exact rtn (ret1 rfl rfl ⟨_, rfl, _, Im.refl, ⟨rfl, hS.sel [0] rfl, trivial⟩⟩)
    have hm := cfalse hb2 hm
    refine gT (d0 := 9) rfl rfl hb2 (pv (r_mi rfl) (gT (d0 := 9) rfl rfl hb2 (pv (r_ib rfl rfl rfl) (gT (d0 := 9) rfl rfl hb2 (pv (r_mb rfl) (?_))))))
    rcases Bool.eq_false_or_eq_true (decide (65 ≤ p0)) with hb3 | hb3
    · have hm := ctrue hb3 hm
      refine gT (d0 := 12) rfl rfl hb3 (pv (r_mi rfl) (gT (d0 := 12) rfl rfl hb3 (pv (r_ib rfl rfl rfl) (gT (d0 := 9) rfl rfl hb2 (pv (r_pkt rfl hb3 rfl) (pv (r_pkf rfl hb2 rfl) (pv (r_mb rfl) (?_))))))))
      rcases Bool.eq_false_or_eq_true (decide (p0 ≤ 90)) with hb4 | hb4
      · have hm := ctrue hb4 hm
        refine gF (d0 := 17) rfl rfl (by rw [hb4]; rfl) (gF (d0 := 17) rfl rfl (by rw [hb4]; rfl) (pv (r_pkt rfl hb4 rfl) (pv (r_zb rfl) (nil (t_then ?_)))))
        have hm := oI hm; subst hm
        exact rtn (ret1 rfl rfl ⟨_, rfl, _, Im.refl, ⟨rfl, hS.sel [0] rfl, trivial⟩⟩)
      have hm := cfalse hb4 hm
      refine gT (d0 := 17) rfl rfl hb4 (pv (r_mi rfl) (gT (d0 := 17) rfl rfl hb4 (pv (r_ib rfl rfl rfl) (pv (r_pkf rfl hb4 rfl) (pv (r_zb rfl) (nil (t_then ?_)))))))
      have hm := oI hm; subst hm
      exact rtn (ret1 rfl rfl ⟨_, rfl, _, Im.refl, ⟨rfl, hS.sel [0] rfl, trivial⟩⟩)
    have hm := cfalse hb3 hm
    refine gF (d0 := 12) rfl rfl (by rw [hb3]; rfl) (gF (d0 := 12) rfl rfl (by rw [hb3]; rfl) (gT (d0 := 9) rfl rfl hb2 (pv (r_pkf rfl hb3 rfl) (pv (r_pkf rfl hb2 rfl) (pv (r_mb rfl) (gT (d0 := 17) rfl rfl rfl (pv (r_mi rfl) (gT (d0 := 17) rfl rfl rfl (pv (r_ib rfl rfl rfl) (pv (r_pkf rfl rfl rfl) (pv (r_zb rfl) (nil (t_then ?_)))))))))))))
    have hm := oI hm; subst hm
    exact rtn (ret1 rfl rfl ⟨_, rfl, _, Im.refl, ⟨rfl, hS.sel [0] rfl, trivial⟩⟩)
  have hm := cfalse hb1 hm
  refine gF (d0 := 5) rfl rfl (by rw [hb1]; rfl) (gF (d0 := 5) rfl rfl (by rw [hb1]; rfl) (pv (r_pkf rfl hb1 rfl) (pv (r_mb rfl) (gT (d0 := 9) rfl rfl rfl (pv (r_mi rfl) (gT (d0 := 9) rfl rfl rfl (pv (r_ib rfl rfl rfl) (gT (d0 := 9) rfl rfl rfl (pv (r_mb rfl) (?_))))))))))
  rcases Bool.eq_false_or_eq_true (decide (65 ≤ p0)) with hb5 | hb5
  · have hm := ctrue hb5 hm
    refine gT (d0 := 12) rfl rfl hb5 (pv (r_mi rfl) (gT (d0 := 12) rfl rfl hb5 (pv (r_ib rfl rfl rfl) (gT (d0 := 9) rfl rfl rfl (pv (r_pkt rfl hb5 rfl) (pv (r_pkf rfl rfl rfl) (pv (r_mb rfl) (?_))))))))
    rcases Bool.eq_false_or_eq_true (decide (p0 ≤ 90)) with hb6 | hb6
    · have hm := ctrue hb6 hm
      refine gF (d0 := 17) rfl rfl (by rw [hb6]; rfl) (gF (d0 := 17) rfl rfl (by rw [hb6]; rfl) (pv (r_pkt rfl hb6 rfl) (pv (r_zb rfl) (nil (t_then ?_)))))
      have hm := oI hm; subst hm
      exact rtn (ret1 rfl rfl ⟨_, rfl, _, Im.refl, ⟨rfl, hS.sel [0] rfl, trivial⟩⟩)
    have hm := cfalse hb6 hm
    refine gT (d0 := 17) rfl rfl hb6 (pv (r_mi rfl) (gT (d0 := 17) rfl rfl hb6 (pv (r_ib rfl rfl rfl) (pv (r_pkf rfl hb6 rfl) (pv (r_zb rfl) (nil (t_then ?_)))))))
    have hm := oI hm; subst hm
    exact rtn (ret1 rfl rfl ⟨_, rfl, _, Im.refl, ⟨rfl, hS.sel [0] rfl, trivial⟩⟩)
  have hm := cfalse hb5 hm
  refine gF (d0 := 12) rfl rfl (by rw [hb5]; rfl) (gF (d0 := 12) rfl rfl (by rw [hb5]; rfl) (gT (d0 := 9) rfl rfl rfl (pv (r_pkf rfl hb5 rfl) (pv (r_pkf rfl rfl rfl) (pv (r_mb rfl) (gT (d0 := 17) rfl rfl rfl (pv (r_mi rfl) (gT (d0 := 17) rfl rfl rfl (pv (r_ib rfl rfl rfl) (pv (r_pkf rfl rfl rfl) (pv (r_zb rfl) (nil (t_then ?_)))))))))))))
  have hm := oI hm; subst hm
  exact rtn (ret1 rfl rfl ⟨_, rfl, _, Im.refl, ⟨rfl, hS.sel [0] rfl, trivial⟩⟩)

theorem lex_digit_sim {p0 : Int} {r : Bool} (hS : Sep g T0 w0 [R])  (hm : lex_digit p0 = some r) :
    Calls Tryz.prog 28 #[.int .u8 p0] w0 (RetS T0 w0 fun T w v => v = .bool r ∧ Sep g T w [R] ∧ True) := by
  refine enter (args := [.int .u8 p0]) Tryz.func28 rfl Tryz.ntmps28 rfl fun J => ?_
  unfold lex_digit at hm
  refine sq2 (rg (pv (r_zb rfl) (nil (t_then ?_))))
  refine sq2 (rg (pv (r_mi rfl) (pv (r_ib rfl rfl rfl) (pv (r_mb rfl) (?_)))))
  rcases Bool.eq_false_or_eq_true (decide (48 ≤ p0)) with hb1 | hb1
  · have hm := ctrue hb1 hm
    refine gT (d0 := 5) rfl rfl hb1 (pv (r_mi rfl) (gT (d0 := 5) rfl rfl hb1 (pv (r_ib rfl rfl rfl) (pv (r_pkt rfl hb1 rfl) (pv (r_zb rfl) (nil (t_then ?_)))))))
    have hm := oI hm; subst hm
    exact rtn (ret1 rfl rfl ⟨_, rfl, _, Im.refl, ⟨rfl, hS.sel [0] rfl, trivial⟩⟩)
  have hm := cfalse hb1 hm
  refine gF (d0 := 5) rfl rfl (by rw [hb1]; rfl) (gF (d0 := 5) rfl rfl (by rw [hb1]; rfl) (pv (r_pkf rfl hb1 rfl) (pv (r_zb rfl) (nil (t_then ?_)))))
  have hm := oI hm; subst hm
  exact rtn (ret1 rfl rfl ⟨_, rfl, _, Im.refl, ⟨rfl, hS.sel [0] rfl, trivial⟩⟩)

theorem lex_more_sim {p0 : Int} {r : Bool} (hS : Sep g T0 w0 [R])  (hm : lex_more p0 = some r) :
    Calls Tryz.prog 26 #[.int .u8 p0] w0 (RetS T0 w0 fun T w v => v = .bool r ∧ Sep g T w [R] ∧ True) := by
  refine enter (args := [.int .u8 p0]) Tryz.func26 rfl Tryz.ntmps26 rfl fun J => ?_
  unfold lex_more at hm
  refine sq2 (rg (pv (r_zb rfl) (nil (t_then ?_))))
  refine sq2 ?_
  obtain ⟨y1, hx1, hm⟩ := bindS hm
  refine rg (pv (r_mi rfl) (wl rfl (calS cf25 rfl (lex_letter_sim (p0 := p0) (hS.bun [0] [] rfl)  hx1) rfl fun v1 T1 w1 im1 rv1 => ?_)))
  obtain ⟨rfl, hS1, _⟩ := rv1
  have hS1 := hS1.unb
  refine pv (r_mb rfl) (?_)
  rcases Bool.eq_false_or_eq_true y1 with hb1 | hb1
  · have hm := ctrue hb1 hm
    refine gF (d0 := 5) rfl rfl (by rw [hb1]; rfl) (gF (d0 := 5) rfl rfl (by rw [hb1]; rfl) (pv (r_pkt rfl hb1 rfl) (pv (r_zb rfl) (nil (t_then ?_)))))
    have hm := oI hm; subst hm
    exact rtn (ret1 rfl rfl ⟨_, rfl, _, im1, ⟨rfl, hS1.sel [0] rfl, trivial⟩⟩)
  have hm := cfalse hb1 hm
  obtain ⟨y2, hx2, hm⟩ := bindS hm
  refine gT (d0 := 5) rfl rfl hb1 (pv (r_mi rfl) (gT (d0 := 5) rfl rfl hb1 (wl rfl (calS cf28 rfl (lex_digit_sim (p0 := p0) (hS1.bun [0] [] rfl)  hx2) rfl fun v2 T2 w2 im2 rv2 => ?_))))
  obtain ⟨rfl, hS2, _⟩ := rv2
  have hS2 := hS2.unb
  refine pv (r_pkf rfl hb1 rfl) (pv (r_zb rfl) (nil (t_then ?_)))
  have hm := oI hm; subst hm
  exact rtn (ret1 rfl rfl ⟨_, rfl, _, (iT im1 im2), ⟨rfl, hS2.sel [0] rfl, trivial⟩⟩)

theorem lex_span_2_sim {p0 : List UInt8} {r : Int} (hS : Sep g T0 w0 [R])  (hm : lex_span_2 p0 = some r) :
    Calls Tryz.prog 23 #[.string ⟨p0.toArray⟩, .func (.func 26) #[] #[]] w0 (RetS T0 w0 fun T w v => v = iv r ∧ Sep g T w [R] ∧ True) := by
  refine enter (args := [.string ⟨p0.toArray⟩, .func (.func 26) #[] #[]]) Tryz.func23 rfl Tryz.ntmps23 rfl fun J => ?_
  unfold lex_span_2 at hm
  refine sq2 (rg (pv (r_zi rfl) (nil (t_then ?_))))
  refine sq2 (rg (pv (r_zi rfl) (nil (t_then ?_))))
  refine sq2 ?_
  obtain ⟨o1, ho1, hq1⟩ := bindS hm
  obtain ⟨bd1, hbd1, ho1⟩ := loop_open ho1
  refine blk (wp_loop_ghost (fun m a w1 => ∃ (J : JV) (T1 : TP) (x1 : Int), a = env (nf 20) J [(0, .string ⟨p0.toArray⟩), (1, .func (.func 26) #[] #[]), (5, iv x1)] ∧ Im T0 w0 T1 w1 ∧ Sep g T1 w1 [R] ∧ loopM bd1 m x1 = some o1) NN ⟨_, _, 0, env_has ⟨rfl, rfl, rfl, trivial⟩, Im.refl, hS.sel [0] rfl, ho1⟩ ?_)
  rintro m _ w1 ⟨J, T1, x1, rfl, im1, hS1, ho1⟩
  obtain ⟨m1, z1, rfl, hm, hn1⟩ := loop_round ho1
  rw [hbd1] at hm
  refine sq2 (sq2 (rg (pv (r_mi rfl) (pv (r_mt rfl) (pv (r_lnt rfl underlying9) (pv (r_ib rfl rfl rfl) (pv (r_mb rfl) (?_))))))))
  rcases Bool.eq_false_or_eq_true (decide (x1 < (List.length p0 : Int))) with hb1 | hb1
  · have hm := ctrue hb1 hm
    obtain ⟨u1, hx1, hm⟩ := bindS hm
    obtain ⟨y1, hx2, hm⟩ := bindS hm
    refine gT (d0 := 10) rfl rfl hb1 (pv (r_mf rfl) (gT (d0 := 10) rfl rfl hb1 (pv (r_mt rfl) (gT (d0 := 10) rfl rfl hb1 (pv (r_mi rfl) (gT (d0 := 10) rfl rfl hb1 (pv (r_sx rfl rfl hx1 underlying9) (gT (d0 := 10) rfl rfl hb1 (wl rfl (calS cf26 rfl (lex_more_sim (p0 := (UInt8.toNat u1 : Int)) (hS1.bun [0] [] rfl)  hx2) rfl fun v1 T2 w2 im2 rv1 => ?_))))))))))
    obtain ⟨rfl, hS2, _⟩ := rv1
    have hS2 := hS2.unb
    refine pv (r_pkt rfl hb1 rfl) (nil (t_then ?_))
    refine cnd rfl (fun hb2 => ?_) (fun hb2 => ?_)
    · have hm := ctrue hb2 hm
      refine skp (t_then ?_)
      refine blk ?_
      have hm := oI hm; subst hm
      exact rg (pv (r_mi rfl) (pv (r_ib rfl rfl rfl) (pv (r_zi rfl) (nil (t_blk (t_then ⟨m1, Nat.lt_succ_self _, _, _, (IntKind.wrap .i64 (x1 + 1)), env_has ⟨rfl, rfl, rfl, trivial⟩, (iT im1 im2), hS2.sel [0] rfl, hn1⟩))))))
    have hm := cfalse hb2 hm
    have hm := oI hm; subst hm
    have hn1 : _ = Lp.brk _ := hn1
    subst hn1
    have hm := thn_brk hq1
    refine xt (x_then (x_then (x_eq (t_then ?_))))
    refine sq2 (rg (pv (r_mi rfl) (pv (r_zi rfl) (nil (t_then ?_)))))
    have hm := oI hm; subst hm
    exact rtn (ret1 rfl rfl ⟨_, rfl, _, (iT im1 im2), ⟨rfl, hS2.sel [0] rfl, trivial⟩⟩)
  have hm := cfalse hb1 hm
  refine gF (d0 := 10) rfl rfl (by rw [hb1]; rfl) (gF (d0 := 10) rfl rfl (by rw [hb1]; rfl) (gF (d0 := 10) rfl rfl (by rw [hb1]; rfl) (gF (d0 := 10) rfl rfl (by rw [hb1]; rfl) (gF (d0 := 10) rfl rfl (by rw [hb1]; rfl) (pv (r_pkf rfl hb1 rfl) (nil (t_then ?_)))))))
  refine cnd (b := false) rfl (fun h => nomatch h) (fun _ => ?_)
  have hm := oI hm; subst hm
  have hn1 : _ = Lp.brk _ := hn1
  subst hn1
  have hm := thn_brk hq1
  refine xt (x_then (x_then (x_eq (t_then ?_))))
  refine sq2 (rg (pv (r_mi rfl) (pv (r_zi rfl) (nil (t_then ?_)))))
  have hm := oI hm; subst hm
  exact rtn (ret1 rfl rfl ⟨_, rfl, _, im1, ⟨rfl, hS1.sel [0] rfl, trivial⟩⟩)

theorem lex_Word_sim {p0 : List UInt8} {r : Bool} (hS : Sep g T0 w0 [R])  (hm : lex_Word p0 = some r) :
    Calls Tryz.prog 27 #[.string ⟨p0.toArray⟩] w0 (RetS T0 w0 fun T w v => v = .bool r ∧ Sep g T w [R] ∧ True) := by
  refine enter (args := [.string ⟨p0.toArray⟩]) Tryz.func27 rfl Tryz.ntmps27 rfl fun J => ?_
  unfold lex_Word at hm
  refine sq2 (rg (pv (r_zb rfl) (nil (t_then ?_))))
  refine sq2 (sq2 (rg (pv (r_mt rfl) (nil (t_then ?_)))))
  refine blk ?_
  obtain ⟨kk1, hkk1, hm⟩ := jn_open hm
  refine cut (fun a w1 => ∃ (J : JV) (T1 : TP) (x1 : Bool), a = env (nf 23) J [(4, .bool x1)] ∧ Im T0 w0 T1 w1 ∧ Sep g T1 w1 [R] ∧ kk1 x1 = some r) ?_ ?_
  · refine sq2 (rg (pv (r_sqL rfl rfl) (pv (r_zb rfl) (nil (t_then ?_)))))
    refine cnd rfl (fun hb1 => ?_) (fun hb1 => ?_)
    · have hm := ctrue hb1 hm
      exact skp (t_then ⟨_, _, (decide (p0 = ([98, 114, 101, 97, 107] : List UInt8))), env_has ⟨rfl, trivial⟩, Im.refl, hS.sel [0] rfl, hm⟩)
    have hm := cfalse hb1 hm
    refine sq2 (rg (pv (r_sqL rfl rfl) (pv (r_zb rfl) (nil (t_then ?_)))))
    refine cnd rfl (fun hb2 => ?_) (fun hb2 => ?_)
    · have hm := ctrue hb2 hm
      exact skp (t_then ⟨_, _, (decide (p0 = ([99, 97, 115, 101] : List UInt8))), env_has ⟨rfl, trivial⟩, Im.refl, hS.sel [0] rfl, hm⟩)
    have hm := cfalse hb2 hm
    refine sq2 (rg (pv (r_sqL rfl rfl) (pv (r_zb rfl) (nil (t_then ?_)))))
    refine cnd rfl (fun hb3 => ?_) (fun hb3 => ?_)
    · have hm := ctrue hb3 hm
      exact skp (t_then ⟨_, _, (decide (p0 = ([99, 104, 97, 114] : List UInt8))), env_has ⟨rfl, trivial⟩, Im.refl, hS.sel [0] rfl, hm⟩)
    have hm := cfalse hb3 hm
    refine sq2 (rg (pv (r_sqL rfl rfl) (pv (r_zb rfl) (nil (t_then ?_)))))
    refine cnd rfl (fun hb4 => ?_) (fun hb4 => ?_)
    · have hm := ctrue hb4 hm
      exact skp (t_then ⟨_, _, (decide (p0 = ([99, 111, 110, 116, 105, 110, 117, 101] : List UInt8))), env_has ⟨rfl, trivial⟩, Im.refl, hS.sel [0] rfl, hm⟩)
    have hm := cfalse hb4 hm
    refine sq2 (rg (pv (r_sqL rfl rfl) (pv (r_zb rfl) (nil (t_then ?_)))))
    refine cnd rfl (fun hb5 => ?_) (fun hb5 => ?_)
    · have hm := ctrue hb5 hm
      exact skp (t_then ⟨_, _, (decide (p0 = ([100, 101, 102, 97, 117, 108, 116] : List UInt8))), env_has ⟨rfl, trivial⟩, Im.refl, hS.sel [0] rfl, hm⟩)
    have hm := cfalse hb5 hm
    refine sq2 (rg (pv (r_sqL rfl rfl) (pv (r_zb rfl) (nil (t_then ?_)))))
    refine cnd rfl (fun hb6 => ?_) (fun hb6 => ?_)
    · have hm := ctrue hb6 hm
      exact skp (t_then ⟨_, _, (decide (p0 = ([100, 111] : List UInt8))), env_has ⟨rfl, trivial⟩, Im.refl, hS.sel [0] rfl, hm⟩)
    have hm := cfalse hb6 hm
    refine sq2 (rg (pv (r_sqL rfl rfl) (pv (r_zb rfl) (nil (t_then ?_)))))
    refine cnd rfl (fun hb7 => ?_) (fun hb7 => ?_)
    · have hm := ctrue hb7 hm
      exact skp (t_then ⟨_, _, (decide (p0 = ([101, 108, 115, 101] : List UInt8))), env_has ⟨rfl, trivial⟩, Im.refl, hS.sel [0] rfl, hm⟩)
    have hm := cfalse hb7 hm
    refine sq2 (rg (pv (r_sqL rfl rfl) (pv (r_zb rfl) (nil (t_then ?_)))))
    refine cnd rfl (fun hb8 => ?_) (fun hb8 => ?_)
    · have hm := ctrue hb8 hm
      exact skp (t_then ⟨_, _, (decide (p0 = ([102, 111, 114] : List UInt8))), env_has ⟨rfl, trivial⟩, Im.refl, hS.sel [0] rfl, hm⟩)
    have hm := cfalse hb8 hm
    refine sq2 (rg (pv (r_sqL rfl rfl) (pv (r_zb rfl) (nil (t_then ?_)))))
    refine cnd rfl (fun hb9 => ?_) (fun hb9 => ?_)
    · have hm := ctrue hb9 hm
      exact skp (t_then ⟨_, _, (decide (p0 = ([105, 102] : List UInt8))), env_has ⟨rfl, trivial⟩, Im.refl, hS.sel [0] rfl, hm⟩)
    have hm := cfalse hb9 hm
    refine sq2 (rg (pv (r_sqL rfl rfl) (pv (r_zb rfl) (nil (t_then ?_)))))
    refine cnd rfl (fun hb10 => ?_) (fun hb10 => ?_)
    · have hm := ctrue hb10 hm
      exact skp (t_then ⟨_, _, (decide (p0 = ([105, 110] : List UInt8))), env_has ⟨rfl, trivial⟩, Im.refl, hS.sel [0] rfl, hm⟩)
    have hm := cfalse hb10 hm
    refine sq2 (rg (pv (r_sqL rfl rfl) (pv (r_zb rfl) (nil (t_then ?_)))))
    refine cnd rfl (fun hb11 => ?_) (fun hb11 => ?_)
    · have hm := ctrue hb11 hm
      exact skp (t_then ⟨_, _, (decide (p0 = ([105, 110, 116] : List UInt8))), env_has ⟨rfl, trivial⟩, Im.refl, hS.sel [0] rfl, hm⟩)
    have hm := cfalse hb11 hm
    refine sq2 (rg (pv (r_sqL rfl rfl) (pv (r_zb rfl) (nil (t_thenR [(3, .string ⟨p0.toArray⟩), (4, .bool (decide (p0 = ([111, 117, 116] : List UInt8))))] ⟨rfl, rfl, trivial⟩ fun J => ?_)))))
    refine cnd rfl (fun hb12 => ?_) (fun hb12 => ?_)
    · have hm := ctrue hb12 hm
      exact skp (t_then ⟨_, _, (decide (p0 = ([111, 117, 116] : List UInt8))), env_has ⟨rfl, trivial⟩, Im.refl, hS.sel [0] rfl, hm⟩)
    have hm := cfalse hb12 hm
    refine sq2 (rg (pv (r_sqL rfl rfl) (pv (r_zb rfl) (nil (t_then ?_)))))
    refine cnd rfl (fun hb13 => ?_) (fun hb13 => ?_)
    · have hm := ctrue hb13 hm
      exact skp (t_then ⟨_, _, (decide (p0 = ([114, 101, 116, 117, 114, 110] : List UInt8))), env_has ⟨rfl, trivial⟩, Im.refl, hS.sel [0] rfl, hm⟩)
    have hm := cfalse hb13 hm
    refine sq2 (rg (pv (r_sqL rfl rfl) (pv (r_zb rfl) (nil (t_then ?_)))))
    refine cnd rfl (fun hb14 => ?_) (fun hb14 => ?_)
    · have hm := ctrue hb14 hm
      exact skp (t_then ⟨_, _, (decide (p0 = ([115, 105, 122, 101, 111, 102] : List UInt8))), env_has ⟨rfl, trivial⟩, Im.refl, hS.sel [0] rfl, hm⟩)
    have hm := cfalse hb14 hm
    refine sq2 (rg (pv (r_sqL rfl rfl) (pv (r_zb rfl) (nil (t_then ?_)))))
    refine cnd rfl (fun hb15 => ?_) (fun hb15 => ?_)
    · have hm := ctrue hb15 hm
      exact skp (t_then ⟨_, _, (decide (p0 = ([115, 116, 114, 117, 99, 116] : List UInt8))), env_has ⟨rfl, trivial⟩, Im.refl, hS.sel [0] rfl, hm⟩)
    have hm := cfalse hb15 hm
    refine sq2 (rg (pv (r_sqL rfl rfl) (pv (r_zb rfl) (nil (t_then ?_)))))
    refine cnd rfl (fun hb16 => ?_) (fun hb16 => ?_)
    · have hm := ctrue hb16 hm
      exact skp (t_then ⟨_, _, (decide (p0 = ([115, 119, 105, 116, 99, 104] : List UInt8))), env_has ⟨rfl, trivial⟩, Im.refl, hS.sel [0] rfl, hm⟩)
    have hm := cfalse hb16 hm
    refine sq2 (rg (pv (r_sqL rfl rfl) (pv (r_zb rfl) (nil (t_then ?_)))))
    refine cnd rfl (fun hb17 => ?_) (fun hb17 => ?_)
    · have hm := ctrue hb17 hm
      exact skp (t_then ⟨_, _, (decide (p0 = ([118, 111, 105, 100] : List UInt8))), env_has ⟨rfl, trivial⟩, Im.refl, hS.sel [0] rfl, hm⟩)
    have hm := cfalse hb17 hm
    exact rg (pv (r_sqL rfl rfl) (pv (r_zb rfl) (nil (t_then ⟨_, _, (decide (p0 = ([119, 104, 105, 108, 101] : List UInt8))), env_has ⟨rfl, trivial⟩, Im.refl, hS.sel [0] rfl, hm⟩))))
  rintro _ w1 ⟨J, T1, x1, rfl, im1, hS1, hm⟩
  rw [hkk1] at hm
  refine cnd rfl (fun hb18 => ?_) (fun hb18 => ?_)
  · have hm := ctrue hb18 hm
    refine sq2 (rg (pv (r_zb rfl) (nil (t_then ?_))))
    have hm := oI hm; subst hm
    exact rtn (r_blk (r_then (ret1 rfl rfl ⟨_, rfl, _, im1, ⟨rfl, hS1.sel [0] rfl, trivial⟩⟩)))
  have hm := cfalse hb18 hm
  refine skp (t_blk (t_then ?_))
  refine sq2 (rg (pv (r_zb rfl) (nil (t_then ?_))))
  have hm := oI hm; subst hm
  exact rtn (ret1 rfl rfl ⟨_, rfl, _, im1, ⟨rfl, hS1.sel [0] rfl, trivial⟩⟩)

theorem lex_worth_sim {p0 : Int} {r : Int} (hS : Sep g T0 w0 [R])  (hm : lex_worth p0 = some r) :
    Calls Tryz.prog 59 #[.int .u8 p0] w0 (RetS T0 w0 fun T w v => v = .int .u64 r ∧ Sep g T w [R] ∧ True) := by
  refine enter (args := [.int .u8 p0]) Tryz.func59 rfl Tryz.ntmps59 rfl fun J => ?_
  unfold lex_worth at hm
  refine sq2 (rg (pv (r_zi rfl) (nil (t_then ?_))))
  refine sq2 (blk (sq2 ?_))
  obtain ⟨y1, hx1, hm⟩ := bindS hm
  refine rg (pv (r_mi rfl) (wl rfl (calS cf28 rfl (lex_digit_sim (p0 := p0) (hS.bun [0] [] rfl)  hx1) rfl fun v1 T1 w1 im1 rv1 => ?_)))
  obtain ⟨rfl, hS1, _⟩ := rv1
  have hS1 := hS1.unb
  refine pv (r_zb rfl) (nil (t_then ?_))
  refine cnd rfl (fun hb1 => ?_) (fun hb1 => ?_)
  · have hm := ctrue hb1 hm
    refine sq2 (rg (pv (r_mi rfl) (pv (r_ib rfl rfl rfl) (pv (r_cv rfl underlying5 underlying148) (pv (r_zi rfl) (nil (t_then ?_)))))))
    have hm := oI hm; subst hm
    exact rtn (r_blk (r_then (ret1 rfl rfl ⟨_, rfl, _, im1, ⟨rfl, hS1.sel [0] rfl, trivial⟩⟩)))
  have hm := cfalse hb1 hm
  refine sq2 (rg (pv (r_mi rfl) (pv (r_ib rfl rfl rfl) (pv (r_mb rfl) (?_)))))
  rcases Bool.eq_false_or_eq_true (decide (97 ≤ p0)) with hb2 | hb2
  · have hm := ctrue hb2 hm
    refine gT (d0 := 12) rfl rfl hb2 (pv (r_mi rfl) (gT (d0 := 12) rfl rfl hb2 (pv (r_ib rfl rfl rfl) (pv (r_pkt rfl hb2 rfl) (pv (r_zb rfl) (nil (t_then ?_)))))))
    refine cnd rfl (fun hb3 => ?_) (fun hb3 => ?_)
    · have hm := ctrue hb3 hm
      refine sq2 (rg (pv (r_mi rfl) (pv (r_ib rfl rfl rfl) (pv (r_cv rfl underlying5 underlying148) (pv (r_ib rfl rfl rfl) (pv (r_zi rfl) (nil (t_then ?_))))))))
      have hm := oI hm; subst hm
      exact rtn (r_blk (r_then (ret1 rfl rfl ⟨_, rfl, _, im1, ⟨rfl, hS1.sel [0] rfl, trivial⟩⟩)))
    have hm := cfalse hb3 hm
    refine sq2 (rg (pv (r_mi rfl) (pv (r_ib rfl rfl rfl) (pv (r_mb rfl) (?_)))))
    rcases Bool.eq_false_or_eq_true (decide (65 ≤ p0)) with hb4 | hb4
    · have hm := ctrue hb4 hm
      refine gT (d0 := 23) rfl rfl hb4 (pv (r_mi rfl) (gT (d0 := 23) rfl rfl hb4 (pv (r_ib rfl rfl rfl) (pv (r_pkt rfl hb4 rfl) (pv (r_zb rfl) (nil (t_then ?_)))))))
      refine cnd rfl (fun hb5 => ?_) (fun hb5 => ?_)
      · have hm := ctrue hb5 hm
        refine sq2 (rg (pv (r_mi rfl) (pv (r_ib rfl rfl rfl) (pv (r_cv rfl underlying5 underlying148) (pv (r_ib rfl rfl rfl) (pv (r_zi rfl) (nil (t_then ?_))))))))
        have hm := oI hm; subst hm
        exact rtn (r_blk (r_then (ret1 rfl rfl ⟨_, rfl, _, im1, ⟨rfl, hS1.sel [0] rfl, trivial⟩⟩)))
      have hm := cfalse hb5 hm
      refine skp (t_blk (t_then ?_))
      refine sq2 (rg (pv (r_zi rfl) (nil (t_then ?_))))
      have hm := oI hm; subst hm
      exact rtn (ret1 rfl rfl ⟨_, rfl, _, im1, ⟨rfl, hS1.sel [0] rfl, trivial⟩⟩)
    have hm := cfalse hb4 hm
    refine gF (d0 := 23) rfl rfl (by rw [hb4]; rfl) (gF (d0 := 23) rfl rfl (by rw [hb4]; rfl) (pv (r_pkf rfl hb4 rfl) (pv (r_zb rfl) (nil (t_then ?_)))))
    refine cnd (b := false) rfl (fun h => nomatch h) (fun _ => ?_)
    refine skp (t_blk (t_then ?_))
    refine sq2 (rg (pv (r_zi rfl) (nil (t_then ?_))))
    have hm := oI hm; subst hm
    exact rtn (ret1 rfl rfl ⟨_, rfl, _, im1, ⟨rfl, hS1.sel [0] rfl, trivial⟩⟩)
  have hm := cfalse hb2 hm
  refine gF (d0 := 12) rfl rfl (by rw [hb2]; rfl) (gF (d0 := 12) rfl rfl (by rw [hb2]; rfl) (pv (r_pkf rfl hb2 rfl) (pv (r_zb rfl) (nil (t_then ?_)))))
  refine cnd (b := false) rfl (fun h => nomatch h) (fun _ => ?_)
  refine sq2 (rg (pv (r_mi rfl) (pv (r_ib rfl rfl rfl) (pv (r_mb rfl) (?_)))))
  rcases Bool.eq_false_or_eq_true (decide (65 ≤ p0)) with hb8 | hb8
  · have hm := ctrue hb8 hm
    refine gT (d0 := 23) rfl rfl hb8 (pv (r_mi rfl) (gT (d0 := 23) rfl rfl hb8 (pv (r_ib rfl rfl rfl) (pv (r_pkt rfl hb8 rfl) (pv (r_zb rfl) (nil (t_then ?_)))))))
    refine cnd rfl (fun hb9 => ?_) (fun hb9 => ?_)
    · have hm := ctrue hb9 hm
      refine sq2 (rg (pv (r_mi rfl) (pv (r_ib rfl rfl rfl) (pv (r_cv rfl underlying5 underlying148) (pv (r_ib rfl rfl rfl) (pv (r_zi rfl) (nil (t_then ?_))))))))
      have hm := oI hm; subst hm
      exact rtn (r_blk (r_then (ret1 rfl rfl ⟨_, rfl, _, im1, ⟨rfl, hS1.sel [0] rfl, trivial⟩⟩)))
    have hm := cfalse hb9 hm
    refine skp (t_blk (t_then ?_))
    refine sq2 (rg (pv (r_zi rfl) (nil (t_then ?_))))
    have hm := oI hm; subst hm
    exact rtn (ret1 rfl rfl ⟨_, rfl, _, im1, ⟨rfl, hS1.sel [0] rfl, trivial⟩⟩)
  have hm := cfalse hb8 hm
  refine gF (d0 := 23) rfl rfl (by rw [hb8]; rfl) (gF (d0 := 23) rfl rfl (by rw [hb8]; rfl) (pv (r_pkf rfl hb8 rfl) (pv (r_zb rfl) (nil (t_then ?_)))))
  refine cnd (b := false) rfl (fun h => nomatch h) (fun _ => ?_)
  refine skp (t_blk (t_then ?_))
  refine sq2 (rg (pv (r_zi rfl) (nil (t_then ?_))))
  have hm := oI hm; subst hm
  exact rtn (ret1 rfl rfl ⟨_, rfl, _, im1, ⟨rfl, hS1.sel [0] rfl, trivial⟩⟩)

theorem lex_number_sim {p0 : List UInt8} {r : GToken × Int} (hS : Sep g T0 w0 [R])  (hm : lex_number p0 = some r) :
    Calls Tryz.prog 29 #[.string ⟨p0.toArray⟩] w0 (RetS T0 w0 fun T w v => v = .tuple #[.agg (cGToken r.1).toArray, iv r.2] ∧ Sep g T w [R] ∧ True) := by
  refine enter (args := [.string ⟨p0.toArray⟩]) Tryz.func29 rfl Tryz.ntmps29 rfl fun J => ?_
  unfold lex_number at hm
  refine sq2 (rg (wl rfl (alS (zs := [iv 0, .string ⟨([] : List UInt8).toArray⟩, .int .u32 0, iv 0, iv 0]) zeroValue66 rfl hS fun w1 b1 im1 hS1 => ?_)))
  refine pv (r_zi rfl) (nil (t_then ?_))
  refine sq2 ?_
  obtain ⟨y1, hx1, hm⟩ := bindS hm
  refine rg (pv (r_mt rfl) (pv (r_mt rfl) (wl rfl (calS cf23 rfl (lex_span_2_sim (p0 := p0) (hS1.bun [0, 1] [] rfl)  hx1) rfl fun v1 T1 w2 im2 rv1 => ?_))))
  obtain ⟨rfl, hS2, _⟩ := rv1
  have hS2 := hS2.unb
  obtain ⟨u1, hx2, hm⟩ := bindS hm
  refine pv (r_ss rfl rfl ⟨_, rfl⟩ hx2 underlying9) (pv (r_zt rfl) (nil (t_then ?_)))
  refine sq2 (rg (pv (r_mt rfl) (pv (r_zt rfl) (pv (r_zi rfl) (nil (t_then ?_))))))
  obtain ⟨kk1, hkk1, hm⟩ := jn_open hm
  refine cut (fun a w3 => ∃ (J : JV) (T2 : TP) (x1 : List UInt8) (x2 : Int), a = env (nf 54) J [(2, pt b1 0), (4, .string ⟨u1.toArray⟩), (5, .string ⟨x1.toArray⟩), (6, .int .u64 x2)] ∧ Im T1 w2 T2 w3 ∧ Sep g T2 w3 [boxA b1 [iv 0, .string ⟨([] : List UInt8).toArray⟩, .int .u32 0, iv 0, iv 0], R] ∧ kk1 x1 x2 = some r) ?_ ?_
  · refine sq2 ?_
    obtain ⟨y2, hx3, hm⟩ := bindS hm
    refine rg (pv (r_mt rfl) (wl rfl (calS cf21 rfl (strings_HasPrefix_sim (p0 := u1) (p1 := ([48, 120] : List UInt8)) (hS2.bun [0, 1] [] rfl)  hx3) rfl fun v2 T3 w4 im4 rv2 => ?_)))
    obtain ⟨rfl, hS3, _⟩ := rv2
    have hS3 := hS3.unb
    refine pv (r_mb rfl) (?_)
    rcases Bool.eq_false_or_eq_true y2 with hb1 | hb1
    · have hm := ctrue hb1 hm
      refine gF (d0 := 18) rfl rfl (by rw [hb1]; rfl) (gF (d0 := 18) rfl rfl (by rw [hb1]; rfl) (pv (r_pkt rfl hb1 rfl) (nil (t_then ?_))))
      refine cnd (b := true) rfl (fun _ => ?_) (fun h => nomatch h)
      obtain ⟨u3, hx6, hm⟩ := bindS hm
      exact rg (pv (r_mt rfl) (pv (r_ss rfl ⟨_, rfl⟩ rfl hx6 underlying9) (pv (r_zt rfl) (pv (r_zi rfl) (nil (t_then ⟨_, _, u3, 16, env_has ⟨rfl, rfl, rfl, rfl, trivial⟩, im4, hS3.sel [0, 1] rfl, hm⟩))))))
    have hm := cfalse hb1 hm
    obtain ⟨y3, hx4, hm⟩ := bindS hm
    refine gT (d0 := 18) rfl rfl hb1 (pv (r_mt rfl) (gT (d0 := 18) rfl rfl hb1 (wl rfl (calS cf21 rfl (strings_HasPrefix_sim (p0 := u1) (p1 := ([48, 88] : List UInt8)) (hS3.bun [0, 1] [] rfl)  hx4) rfl fun v3 T4 w5 im5 rv3 => ?_))))
    obtain ⟨rfl, hS4, _⟩ := rv3
    have hS4 := hS4.unb
    refine pv (r_pkf rfl hb1 rfl) (nil (t_then ?_))
    refine cnd rfl (fun hb2 => ?_) (fun hb2 => ?_)
    · have hm := ctrue hb2 hm
      obtain ⟨u2, hx5, hm⟩ := bindS hm
      exact rg (pv (r_mt rfl) (pv (r_ss rfl ⟨_, rfl⟩ rfl hx5 underlying9) (pv (r_zt rfl) (pv (r_zi rfl) (nil (t_then ⟨_, _, u2, 16, env_has ⟨rfl, rfl, rfl, rfl, trivial⟩, (iT im4 im5), hS4.sel [0, 1] rfl, hm⟩))))))
    have hm := cfalse hb2 hm
    exact skp (t_then ⟨_, _, u1, 10, env_has ⟨rfl, rfl, rfl, rfl, trivial⟩, (iT im4 im5), hS4.sel [0, 1] rfl, hm⟩)
  rintro _ w3 ⟨J, T2, x1, x2, rfl, im3, hS5, hm⟩
  rw [hkk1] at hm
  refine sq2 (sq2 (rg (pv (r_mt rfl) (pv (r_sqL rfl rfl) (nil (t_then ?_))))))
  refine cnd rfl (fun hb4 => ?_) (fun hb4 => ?_)
  · have hm := ctrue hb4 hm
    refine sq2 (rg (pv (r_bd (by kernel_rfl) rfl (u := .agg #[iv 0, .string ⟨([] : List UInt8).toArray⟩, .int .u32 0, iv 0, iv 0])) (wl rfl (st0B (q := 0) hS5 ⟨rfl, rfl⟩ rfl rfl rfl sizeOf66 rfl rfl rfl fun w6 im6 hS6 => ?_))))
    refine pv (r_zi rfl) (nil (t_then ?_))
    have hm := oI hm; subst hm
    exact rtn (r_then (retN (vs := [.agg #[iv 0, .string ⟨([] : List UInt8).toArray⟩, .int .u32 0, iv 0, iv 0], iv 3]) rfl ⟨rvS rfl isAgg66 sizeOf66 rfl (hS6.bx (i := 0) ⟨rfl, rfl⟩), rfl, trivial⟩ rfl ⟨_, rfl, _, (iT im1 (iT im2 (iT im3 im6))), ⟨rfl, hS6.sel [1] rfl, trivial⟩⟩))
  have hm := cfalse hb4 hm
  refine skp (t_then ?_)
  refine sq2 (rg (pv (r_zi rfl) (nil (t_then ?_))))
  refine sq2 (rg (pv (r_zb rfl) (nil (t_then ?_))))
  refine sq2 (sq2 ?_)
  obtain ⟨z_1, hro1, hm⟩ := bindS hm
  refine rg (pv (r_mt rfl) (wl rfl (cvB hS5 rfl underlying9 underlying37 underlying5 (room_some hro1) fun T5 w7 a1 c1 im7 hS7 h1 => ?_)))
  refine pv (r_ln rfl underlying37) (pv (r_mi rfl) (nil (t_then ?_)))
  obtain ⟨o1, ho1, hq1⟩ := bindS hm
  obtain ⟨bd1, hbd1, ho1⟩ := loop_open ho1
  refine blk (wp_loop_ghost (fun m a w8 => ∃ (J : JV) (T6 : TP) (x3 : Int) (x4 : Bool) (x5 : Int), a = env (nf 54) J [(2, pt b1 0), (4, .string ⟨u1.toArray⟩), (6, .int .u64 x2), (7, .int .u64 x3), (8, .bool x4), (28, .slice a1 (List.length (strBytes x1)) c1), (29, iv (List.length (strBytes x1) : Int)), (30, iv x5)] ∧ Im T5 w7 T6 w8 ∧ Sep g T6 w8 [boxA b1 [iv 0, .string ⟨([] : List UInt8).toArray⟩, .int .u32 0, iv 0, iv 0], R] ∧ loopM bd1 m (x3, x4, x5) = some o1) NN ⟨_, _, 0, false, 0, env_has ⟨rfl, rfl, rfl, rfl, rfl, rfl, rfl, rfl, trivial⟩, Im.refl, hS7.sel [0, 1] rfl, ho1⟩ ?_)
  rintro m _ w8 ⟨J, T6, x3, x4, x5, rfl, im8, hS8, ho1⟩
  obtain ⟨m1, z1, rfl, hm, hn1⟩ := loop_round ho1
  rw [hbd1] at hm
  refine sq2 (rg (pv (r_ib rfl rfl rfl) (nil (t_then ?_))))
  refine sq2 (cnd rfl (fun hb5 => ?_) (fun hb5 => ?_))
  · have hm := ctrue hb5 hm
    refine skp (t_then ?_)
    obtain ⟨kk2, hkk2, hm⟩ := jn_open hm
    refine cut (fun a w9 => ∃ (J : JV) (T7 : TP) (x6 : Int) (x7 : Bool), a = env (nf 54) J [(2, pt b1 0), (4, .string ⟨u1.toArray⟩), (6, .int .u64 x2), (7, .int .u64 x6), (8, .bool x7), (28, .slice a1 (List.length (strBytes x1)) c1), (29, iv (List.length (strBytes x1) : Int)), (30, iv x5)] ∧ Im T6 w8 T7 w9 ∧ Sep g T7 w9 [boxA b1 [iv 0, .string ⟨([] : List UInt8).toArray⟩, .int .u32 0, iv 0, iv 0], R] ∧ kk2 x6 x7 = some z1) ?_ ?_
    · refine blk (sq2 ?_)
      obtain ⟨u4, hx7, hm⟩ := bindS hm
      obtain ⟨b2, of1, cs1, k1, cp1, hv1, hp1, hl1, he1, hr1, hc1, hT1⟩ := (h1.mono im8).ixT hx7 rfl
      cases hr1
      refine rg (pv (r_ixe hv1 rfl underlying37 sizeOf5 hp1 hl1 he1) (pv (r_ld rfl isAgg5 (hc1.get (j := 0) rfl)) (pv (r_zi rfl) (nil (t_then ?_)))))
      refine sq2 (sq2 ?_)
      obtain ⟨y4, hx8, hm⟩ := bindS hm
      refine rg (pv (r_mi rfl) (wl rfl (calS cf59 rfl (lex_worth_sim (p0 := u4) (hS8.bun [0, 1] [] rfl)  hx8) rfl fun v4 T8 w10 im10 rv4 => ?_)))
      obtain ⟨rfl, hS9, _⟩ := rv4
      have hS9 := hS9.unb
      refine pv (r_mi rfl) (pv (r_ib rfl rfl rfl) (nil (t_then ?_)))
      refine cnd rfl (fun hb6 => ?_) (fun hb6 => ?_)
      · have hm := ctrue hb6 hm
        refine sq2 (rg (pv (r_bd (by kernel_rfl) rfl (u := .agg #[iv 0, .string ⟨([] : List UInt8).toArray⟩, .int .u32 0, iv 0, iv 0])) (wl rfl (st0B (q := 0) hS9 ⟨rfl, rfl⟩ rfl rfl rfl sizeOf66 rfl rfl rfl fun w11 im11 hS10 => ?_))))
        refine pv (r_zi rfl) (nil (t_then ?_))
        have hm := oI hm; subst hm
        have hn1 : _ = Lp.ret _ := hn1
        subst hn1
        have hm := thn_ret hq1
        have hm := oI hm; subst hm
        exact rtn (r_then (r_blk (r_then (r_then (r_blk (r_then (retN (vs := [.agg #[iv 0, .string ⟨([] : List UInt8).toArray⟩, .int .u32 0, iv 0, iv 0], iv 3]) rfl ⟨rvS rfl isAgg66 sizeOf66 rfl (hS10.bx (i := 0) ⟨rfl, rfl⟩), rfl, trivial⟩ rfl ⟨_, rfl, _, (iT im1 (iT im2 (iT im3 (iT im7 (iT im8 (iT im10 im11)))))), ⟨rfl, hS10.sel [1] rfl, trivial⟩⟩)))))))
      have hm := cfalse hb6 hm
      refine skp (t_then ?_)
      refine sq2 ?_
      obtain ⟨y5, hx9, hm⟩ := bindS hm
      refine rg (pv (r_mi rfl) (pv (r_mi rfl) (pv (r_ib rfl rfl rfl) (pv (r_mi rfl) (wl rfl (calS cf59 rfl (lex_worth_sim (p0 := u4) (hS9.bun [0, 1] [] rfl)  hx9) rfl fun v5 T9 w12 im12 rv5 => ?_))))))
      obtain ⟨rfl, hS11, _⟩ := rv5
      have hS11 := hS11.unb
      refine pv (r_ib rfl rfl rfl) (pv (r_zi rfl) (nil (t_then ?_)))
      refine sq2 (rg (pv (r_mi rfl) (pv (r_ib rfl rfl rfl) (nil (t_then ?_)))))
      refine cnd rfl (fun hb7 => ?_) (fun hb7 => ?_)
      · have hm := ctrue hb7 hm
        exact rg (pv (r_zi rfl) (pv (r_zb rfl) (nil (t_blk (t_then ⟨_, _, 4294967295, true, env_has ⟨rfl, rfl, rfl, rfl, rfl, rfl, rfl, rfl, trivial⟩, (iT im10 im12), hS11.sel [0, 1] rfl, hm⟩)))))
      have hm := cfalse hb7 hm
      exact skp (t_blk (t_then ⟨_, _, (IntKind.wrap .u64 ((IntKind.wrap .u64 (x3 * x2)) + y5)), x4, env_has ⟨rfl, rfl, rfl, rfl, rfl, rfl, rfl, rfl, trivial⟩, (iT im10 im12), hS11.sel [0, 1] rfl, hm⟩))
    rintro _ w9 ⟨J, T7, x6, x7, rfl, im9, hS12, hm⟩
    rw [hkk2] at hm
    have hm := oI hm; subst hm
    exact rg (pv (r_ib rfl rfl rfl) (pv (r_mi rfl) (nil (t_then ⟨m1, Nat.lt_succ_self _, _, _, x6, x7, (IntKind.wrap .i64 (x5 + 1)), env_has ⟨rfl, rfl, rfl, rfl, rfl, rfl, rfl, rfl, trivial⟩, (iT im8 im9), hS12.sel [0, 1] rfl, hn1⟩))))
  have hm := cfalse hb5 hm
  have hm := oI hm; subst hm
  have hn1 : _ = Lp.brk _ := hn1
  subst hn1
  have hm := thn_brk hq1
  refine xt (x_then (x_then (x_eq (t_then ?_))))
  refine sq2 (sq2 (rg (pv (r_mb rfl) (nil (t_then ?_)))))
  refine cnd rfl (fun hb8 => ?_) (fun hb8 => ?_)
  · have hm := ctrue hb8 hm
    refine sq2 (rg (pv (r_bd (by kernel_rfl) rfl (u := .agg #[iv 0, .string ⟨([] : List UInt8).toArray⟩, .int .u32 0, iv 0, iv 0])) (wl rfl (st0B (q := 0) hS8 ⟨rfl, rfl⟩ rfl rfl rfl sizeOf66 rfl rfl rfl fun w13 im13 hS13 => ?_))))
    refine pv (r_zi rfl) (nil (t_then ?_))
    have hm := oI hm; subst hm
    exact rtn (r_then (retN (vs := [.agg #[iv 0, .string ⟨([] : List UInt8).toArray⟩, .int .u32 0, iv 0, iv 0], iv 7]) rfl ⟨rvS rfl isAgg66 sizeOf66 rfl (hS13.bx (i := 0) ⟨rfl, rfl⟩), rfl, trivial⟩ rfl ⟨_, rfl, _, (iT im1 (iT im2 (iT im3 (iT im7 (iT im8 im13))))), ⟨rfl, hS13.sel [1] rfl, trivial⟩⟩))
  have hm := cfalse hb8 hm
  refine skp (t_then ?_)
  refine sq2 (rg (pv (r_mt rfl) (pv (r_mi rfl) (pv (r_cv rfl underlying148 underlying56) (pv (r_bd (by kernel_rfl) rfl (u := .agg #[iv 3, .string ⟨u1.toArray⟩, .int .u32 (IntKind.wrap .u32 x3), iv 0, iv 0])) (wl rfl (st0B (q := 0) hS8 ⟨rfl, rfl⟩ rfl rfl rfl sizeOf66 rfl rfl rfl fun w14 im14 hS14 => ?_)))))))
  refine pv (r_zi rfl) (nil (t_then ?_))
  have hm := oI hm; subst hm
  exact rtn (retN (vs := [.agg #[iv 3, .string ⟨u1.toArray⟩, .int .u32 (IntKind.wrap .u32 x3), iv 0, iv 0], iv 0]) rfl ⟨rvS rfl isAgg66 sizeOf66 rfl (hS14.bx (i := 0) ⟨rfl, rfl⟩), rfl, trivial⟩ rfl ⟨_, rfl, _, (iT im1 (iT im2 (iT im3 (iT im7 (iT im8 im14))))), ⟨rfl, hS14.sel [1] rfl, trivial⟩⟩)

theorem lex_escape_sim {p0 : Int} {r : Int × Bool} (hS : Sep g T0 w0 [R])  (hm : lex_escape p0 = some r) :
    Calls Tryz.prog 60 #[.int .u8 p0] w0 (RetS T0 w0 fun T w v => v = .tuple #[.int .u8 r.1, .bool r.2] ∧ Sep g T w [R] ∧ True) := by
  refine enter (args := [.int .u8 p0]) Tryz.func60 rfl Tryz.ntmps60 rfl fun J => ?_
  unfold lex_escape at hm
  refine sq2 (rg (pv (r_zi rfl) (pv (r_zb rfl) (nil (t_then ?_)))))
  refine sq2 (sq2 (rg (pv (r_mi rfl) (nil (t_then ?_)))))
  refine blk (sq2 (rg (pv (r_ib rfl rfl rfl) (pv (r_zb rfl) (nil (t_then ?_))))))
  refine cnd rfl (fun hb1 => ?_) (fun hb1 => ?_)
  · have hm := ctrue hb1 hm
    refine sq2 (rg (pv (r_zi rfl) (pv (r_zb rfl) (nil (t_then ?_)))))
    have hm := oI hm; subst hm
    exact rtn (r_blk (r_then (retN (vs := [.int .u8 10, .bool true]) rfl ⟨rfl, rfl, trivial⟩ rfl ⟨_, rfl, _, Im.refl, ⟨rfl, hS.sel [0] rfl, trivial⟩⟩)))
  have hm := cfalse hb1 hm
  refine sq2 (rg (pv (r_ib rfl rfl rfl) (pv (r_zb rfl) (nil (t_then ?_)))))
  refine cnd rfl (fun hb2 => ?_) (fun hb2 => ?_)
  · have hm := ctrue hb2 hm
    refine sq2 (rg (pv (r_zi rfl) (pv (r_zb rfl) (nil (t_then ?_)))))
    have hm := oI hm; subst hm
    exact rtn (r_blk (r_then (retN (vs := [.int .u8 9, .bool true]) rfl ⟨rfl, rfl, trivial⟩ rfl ⟨_, rfl, _, Im.refl, ⟨rfl, hS.sel [0] rfl, trivial⟩⟩)))
  have hm := cfalse hb2 hm
  refine sq2 (rg (pv (r_ib rfl rfl rfl) (pv (r_zb rfl) (nil (t_then ?_)))))
  refine cnd rfl (fun hb3 => ?_) (fun hb3 => ?_)
  · have hm := ctrue hb3 hm
    refine sq2 (rg (pv (r_zi rfl) (pv (r_zb rfl) (nil (t_then ?_)))))
    have hm := oI hm; subst hm
    exact rtn (r_blk (r_then (retN (vs := [.int .u8 13, .bool true]) rfl ⟨rfl, rfl, trivial⟩ rfl ⟨_, rfl, _, Im.refl, ⟨rfl, hS.sel [0] rfl, trivial⟩⟩)))
  have hm := cfalse hb3 hm
  refine sq2 (rg (pv (r_ib rfl rfl rfl) (pv (r_zb rfl) (nil (t_then ?_)))))
  refine cnd rfl (fun hb4 => ?_) (fun hb4 => ?_)
  · have hm := ctrue hb4 hm
    refine sq2 (rg (pv (r_zi rfl) (pv (r_zb rfl) (nil (t_then ?_)))))
    have hm := oI hm; subst hm
    exact rtn (r_blk (r_then (retN (vs := [.int .u8 0, .bool true]) rfl ⟨rfl, rfl, trivial⟩ rfl ⟨_, rfl, _, Im.refl, ⟨rfl, hS.sel [0] rfl, trivial⟩⟩)))
  have hm := cfalse hb4 hm
  obtain ⟨kk1, hkk1, hm⟩ := jn_open hm
  refine cut (fun a w1 => ∃ (J : JV) (T1 : TP) (x1 : Bool), a = env (nf 17) J [(0, .int .u8 p0), (13, .bool x1)] ∧ Im T0 w0 T1 w1 ∧ Sep g T1 w1 [R] ∧ kk1 x1 = some r) ?_ ?_
  · refine sq2 (rg (pv (r_ib rfl rfl rfl) (pv (r_zb rfl) (nil (t_then ?_)))))
    refine cnd rfl (fun hb5 => ?_) (fun hb5 => ?_)
    · have hm := ctrue hb5 hm
      exact skp (t_then ⟨_, _, (p0 == 92), env_has ⟨rfl, rfl, trivial⟩, Im.refl, hS.sel [0] rfl, hm⟩)
    have hm := cfalse hb5 hm
    exact rg (pv (r_ib rfl rfl rfl) (pv (r_zb rfl) (nil (t_then ⟨_, _, (p0 == 39), env_has ⟨rfl, rfl, trivial⟩, Im.refl, hS.sel [0] rfl, hm⟩))))
  rintro _ w1 ⟨J, T1, x1, rfl, im1, hS1, hm⟩
  rw [hkk1] at hm
  refine cnd rfl (fun hb6 => ?_) (fun hb6 => ?_)
  · have hm := ctrue hb6 hm
    refine sq2 (rg (pv (r_mi rfl) (pv (r_zi rfl) (pv (r_zb rfl) (nil (t_then ?_))))))
    have hm := oI hm; subst hm
    exact rtn (r_blk (r_then (retN (vs := [.int .u8 p0, .bool true]) rfl ⟨rfl, rfl, trivial⟩ rfl ⟨_, rfl, _, im1, ⟨rfl, hS1.sel [0] rfl, trivial⟩⟩)))
  have hm := cfalse hb6 hm
  refine skp (t_blk (t_then ?_))
  refine sq2 (rg (pv (r_zi rfl) (pv (r_zb rfl) (nil (t_then ?_)))))
  have hm := oI hm; subst hm
  exact rtn (retN (vs := [.int .u8 0, .bool false]) rfl ⟨rfl, rfl, trivial⟩ rfl ⟨_, rfl, _, im1, ⟨rfl, hS1.sel [0] rfl, trivial⟩⟩)

theorem lex_char_sim {p0 : List UInt8} {r : GToken × Int} (hS : Sep g T0 w0 [R])  (hm : lex_char p0 = some r) :
    Calls Tryz.prog 30 #[.string ⟨p0.toArray⟩] w0 (RetS T0 w0 fun T w v => v = .tuple #[.agg (cGToken r.1).toArray, iv r.2] ∧ Sep g T w [R] ∧ True) := by
  refine enter (args := [.string ⟨p0.toArray⟩]) Tryz.func30 rfl Tryz.ntmps30 rfl fun J => ?_
  unfold lex_char at hm
  refine sq2 (rg (wl rfl (alS (zs := [iv 0, .string ⟨([] : List UInt8).toArray⟩, .int .u32 0, iv 0, iv 0]) zeroValue66 rfl hS fun w1 b1 im1 hS1 => ?_)))
  refine pv (r_zi rfl) (nil (t_then ?_))
  refine sq2 (sq2 (rg (pv (r_mt rfl) (pv (r_lnt rfl underlying9) (pv (r_ib rfl rfl rfl) (pv (r_mb rfl) (?_)))))))
  rcases Bool.eq_false_or_eq_true (decide (4 ≤ (List.length p0 : Int))) with hb1 | hb1
  · have hm := ctrue hb1 hm
    obtain ⟨u1, hx1, hm⟩ := bindS hm
    refine gT (d0 := 9) rfl rfl hb1 (pv (r_mt rfl) (gT (d0 := 9) rfl rfl hb1 (pv (r_sx rfl rfl hx1 underlying9) (gT (d0 := 9) rfl rfl hb1 (pv (r_ib rfl rfl rfl) (pv (r_pkt rfl hb1 rfl) (pv (r_mb rfl) (?_))))))))
    rcases Bool.eq_false_or_eq_true ((UInt8.toNat u1 : Int) == 92) with hb2 | hb2
    · have hm := ctrue hb2 hm
      obtain ⟨u2, hx2, hm⟩ := bindS hm
      refine gT (d0 := 14) rfl rfl hb2 (pv (r_mt rfl) (gT (d0 := 14) rfl rfl hb2 (pv (r_sx rfl rfl hx2 underlying9) (gT (d0 := 14) rfl rfl hb2 (pv (r_ib rfl rfl rfl) (pv (r_pkt rfl hb2 rfl) (nil (t_then ?_))))))))
      refine cnd rfl (fun hb3 => ?_) (fun hb3 => ?_)
      · have hm := ctrue hb3 hm
        refine sq2 (sq2 ?_)
        obtain ⟨u3, hx3, hm⟩ := bindS hm
        obtain ⟨y1, hx4, hm⟩ := bindS hm
        refine rg (pv (r_mt rfl) (pv (r_sx rfl rfl hx3 underlying9) (wl rfl (calS cf60 rfl (lex_escape_sim (p0 := (UInt8.toNat u3 : Int)) (hS1.bun [0, 1] [] rfl)  hx4) rfl fun v1 T1 w2 im2 rv1 => ?_))))
        obtain ⟨rfl, hS2, _⟩ := rv1
        have hS2 := hS2.unb
        refine pv (r_mv rfl) (pv (r_ex (v := .int .u8 y1.1) rfl rfl) (pv (r_ex (v := .bool y1.2) rfl rfl) (pv (r_zi rfl) (pv (r_zb rfl) (nil (t_then ?_))))))
        refine sq2 (rg (pv (r_mb rfl) (nil (t_then ?_))))
        refine cnd rfl (fun hb4 => ?_) (fun hb4 => ?_)
        · have hm := ctrue hb4 hm
          refine sq2 ?_
          obtain ⟨u4, hx5, hm⟩ := bindS hm
          refine rg (pv (r_mt rfl) (pv (r_ss rfl rfl ⟨_, rfl⟩ hx5 underlying9) (pv (r_mi rfl) (pv (r_cv rfl underlying5 underlying56) (pv (r_bd (by kernel_rfl) rfl (u := .agg #[iv 3, .string ⟨u4.toArray⟩, .int .u32 (IntKind.wrap .u32 y1.1), iv 0, iv 0])) (wl rfl (st0B (q := 0) hS2 ⟨rfl, rfl⟩ rfl rfl rfl sizeOf66 rfl rfl rfl fun w3 im3 hS3 => ?_)))))))
          refine pv (r_zi rfl) (nil (t_thenR [(2, pt b1 0), (3, iv 0)] ⟨rfl, rfl, trivial⟩ fun J => ?_))
          have hm := oI hm; subst hm
          exact rtn (r_then (r_then (retN (vs := [.agg #[iv 3, .string ⟨u4.toArray⟩, .int .u32 (IntKind.wrap .u32 y1.1), iv 0, iv 0], iv 0]) rfl ⟨rvS rfl isAgg66 sizeOf66 rfl (hS3.bx (i := 0) ⟨rfl, rfl⟩), rfl, trivial⟩ rfl ⟨_, rfl, _, (iT im1 (iT im2 im3)), ⟨rfl, hS3.sel [1] rfl, trivial⟩⟩)))
        have hm := cfalse hb4 hm
        refine skp (t_then ?_)
        refine sq2 (rg (pv (r_bd (by kernel_rfl) rfl (u := .agg #[iv 0, .string ⟨([] : List UInt8).toArray⟩, .int .u32 0, iv 0, iv 0])) (wl rfl (st0B (q := 0) hS2 ⟨rfl, rfl⟩ rfl rfl rfl sizeOf66 rfl rfl rfl fun w4 im4 hS4 => ?_))))
        refine pv (r_zi rfl) (nil (t_thenR [(2, pt b1 0), (3, iv 3)] ⟨rfl, rfl, trivial⟩ fun J => ?_))
        have hm := oI hm; subst hm
        exact rtn (r_then (retN (vs := [.agg #[iv 0, .string ⟨([] : List UInt8).toArray⟩, .int .u32 0, iv 0, iv 0], iv 3]) rfl ⟨rvS rfl isAgg66 sizeOf66 rfl (hS4.bx (i := 0) ⟨rfl, rfl⟩), rfl, trivial⟩ rfl ⟨_, rfl, _, (iT im1 (iT im2 im4)), ⟨rfl, hS4.sel [1] rfl, trivial⟩⟩))
      have hm := cfalse hb3 hm
      refine skp (t_then ?_)
      refine sq2 (sq2 (rg (pv (r_mt rfl) (pv (r_lnt rfl underlying9) (pv (r_ib rfl rfl rfl) (pv (r_mb rfl) (?_)))))))
      rcases Bool.eq_false_or_eq_true (decide (3 ≤ (List.length p0 : Int))) with hb5 | hb5
      · have hm := ctrue hb5 hm
        obtain ⟨u5, hx6, hm⟩ := bindS hm
        refine gT (d0 := 35) rfl rfl hb5 (pv (r_mt rfl) (gT (d0 := 35) rfl rfl hb5 (pv (r_sx rfl rfl hx6 underlying9) (gT (d0 := 35) rfl rfl hb5 (pv (r_ib rfl rfl rfl) (pv (r_pkt rfl hb5 rfl) (pv (r_mb rfl) (?_))))))))
        rcases Bool.eq_false_or_eq_true ((UInt8.toNat u5 : Int) == 39) with hb6 | hb6
        · have hm := ctrue hb6 hm
          obtain ⟨u6, hx7, hm⟩ := bindS hm
          refine gT (d0 := 40) rfl rfl hb6 (pv (r_mt rfl) (gT (d0 := 40) rfl rfl hb6 (pv (r_sx rfl rfl hx7 underlying9) (gT (d0 := 40) rfl rfl hb6 (pv (r_ib rfl rfl rfl) (pv (r_pkt rfl hb6 rfl) (pv (r_mb rfl) (?_))))))))
          rcases Bool.eq_false_or_eq_true (decide (32 ≤ (UInt8.toNat u6 : Int))) with hb7 | hb7
          · have hm := ctrue hb7 hm
            obtain ⟨u7, hx8, hm⟩ := bindS hm
            refine gT (d0 := 45) rfl rfl hb7 (pv (r_mt rfl) (gT (d0 := 45) rfl rfl hb7 (pv (r_sx rfl rfl hx8 underlying9) (gT (d0 := 45) rfl rfl hb7 (pv (r_ib rfl rfl rfl) (pv (r_pkt rfl hb7 rfl) (pv (r_mb rfl) (?_))))))))
            rcases Bool.eq_false_or_eq_true (decide ((UInt8.toNat u7 : Int) ≤ 126)) with hb8 | hb8
            · have hm := ctrue hb8 hm
              obtain ⟨u8, hx9, hm⟩ := bindS hm
              refine gT (d0 := 50) rfl rfl hb8 (pv (r_mt rfl) (gT (d0 := 50) rfl rfl hb8 (pv (r_sx rfl rfl hx9 underlying9) (gT (d0 := 50) rfl rfl hb8 (pv (r_ib rfl rfl rfl) (pv (r_pkt rfl hb8 rfl) (pv (r_mb rfl) (?_))))))))
              rcases Bool.eq_false_or_eq_true ((UInt8.toNat u8 : Int) != 39) with hb9 | hb9
              · have hm := ctrue hb9 hm
                obtain ⟨u9, hx10, hm⟩ := bindS hm
                refine gT (d0 := 55) rfl rfl hb9 (pv (r_mt rfl) (gT (d0 := 55) rfl rfl hb9 (pv (r_sx rfl rfl hx10 underlying9) (gT (d0 := 55) rfl rfl hb9 (pv (r_ib rfl rfl rfl) (pv (r_pkt rfl hb9 rfl) (nil (t_thenR [(0, .string ⟨p0.toArray⟩), (2, pt b1 0), (59, .bool ((UInt8.toNat u9 : Int) != 92))] ⟨rfl, rfl, rfl, trivial⟩ fun J => ?_))))))))
                refine cnd rfl (fun hb10 => ?_) (fun hb10 => ?_)
                · have hm := ctrue hb10 hm
                  refine sq2 (rs [0, 0, 0, 0, 0, 0, 2, 0] [0, 1, 2, 3, 4, 5, 6, 7] mix (by kernel_rfl) hS1.lt fun w5 i1 => ?_)
                  have im5 := i1.imm
                  have hS5 := hS1.keep i1 (fun _ h => h)
                  obtain ⟨u10, hx11, hm⟩ := bindS hm
                  obtain ⟨u11, hx12, hm⟩ := bindS hm
                  refine s0 rfl trivial (fun _ => r_mt rfl) rfl (s0 rfl trivial (fun _ => r_ss rfl rfl ⟨_, rfl⟩ hx11 underlying9) rfl (s0 rfl trivial (fun _ => r_mt rfl) rfl (s0 rfl trivial (fun _ => r_sx rfl rfl hx12 underlying9) rfl (s0 rfl trivial (fun _ => r_cv rfl underlying5 underlying56) rfl (s0 rfl trivial (fun _ => r_bd (by kernel_rfl) rfl (u := .agg #[iv 3, .string ⟨u10.toArray⟩, .int .u32 (IntKind.wrap .u32 (UInt8.toNat u11 : Int)), iv 0, iv 0])) rfl (s2 [] rfl trivial rfl (by kernel_rfl) (st0B (q := 0) hS5 ⟨rfl, rfl⟩ rfl rfl rfl sizeOf66 rfl rfl rfl fun w6 im6 hS6 => ?_)))))))
                  refine ⟨st0, ?_⟩
                  refine s0 rfl trivial (fun _ => r_zi rfl) rfl (se (t_then ?_))
                  have hm := oI hm; subst hm
                  exact rtn (r_then (retN (vs := [.agg #[iv 3, .string ⟨u10.toArray⟩, .int .u32 (IntKind.wrap .u32 (UInt8.toNat u11 : Int)), iv 0, iv 0], iv 0]) rfl ⟨rvS rfl isAgg66 sizeOf66 rfl (hS6.bx (i := 0) ⟨rfl, rfl⟩), rfl, trivial⟩ rfl ⟨_, rfl, _, (iT im1 (iT im5 im6)), ⟨rfl, hS6.sel [1] rfl, trivial⟩⟩))
                have hm := cfalse hb10 hm
                refine skp (t_then ?_)
                refine sq2 (rg (pv (r_bd (by kernel_rfl) rfl (u := .agg #[iv 0, .string ⟨([] : List UInt8).toArray⟩, .int .u32 0, iv 0, iv 0])) (wl rfl (st0B (q := 0) hS1 ⟨rfl, rfl⟩ rfl rfl rfl sizeOf66 rfl rfl rfl fun w7 im7 hS7 => ?_))))
                refine pv (r_zi rfl) (nil (t_then ?_))
                have hm := oI hm; subst hm
                exact rtn (retN (vs := [.agg #[iv 0, .string ⟨([] : List UInt8).toArray⟩, .int .u32 0, iv 0, iv 0], iv 3]) rfl ⟨rvS rfl isAgg66 sizeOf66 rfl (hS7.bx (i := 0) ⟨rfl, rfl⟩), rfl, trivial⟩ rfl ⟨_, rfl, _, (iT im1 im7), ⟨rfl, hS7.sel [1] rfl, trivial⟩⟩)
              have hm := cfalse hb9 hm
              refine gF (d0 := 55) rfl rfl (by rw [hb9]; rfl) (gF (d0 := 55) rfl rfl (by rw [hb9]; rfl) (gF (d0 := 55) rfl rfl (by rw [hb9]; rfl) (pv (r_pkf rfl hb9 rfl) (nil (t_thenR [(0, .string ⟨p0.toArray⟩), (2, pt b1 0), (59, .bool false)] ⟨rfl, rfl, rfl, trivial⟩ fun J => ?_)))))
              refine cnd (b := false) rfl (fun h => nomatch h) (fun _ => ?_)
              refine skp (t_then ?_)
              refine sq2 (rg (pv (r_bd (by kernel_rfl) rfl (u := .agg #[iv 0, .string ⟨([] : List UInt8).toArray⟩, .int .u32 0, iv 0, iv 0])) (wl rfl (st0B (q := 0) hS1 ⟨rfl, rfl⟩ rfl rfl rfl sizeOf66 rfl rfl rfl fun w8 im8 hS8 => ?_))))
              refine pv (r_zi rfl) (nil (t_then ?_))
              have hm := oI hm; subst hm
              exact rtn (retN (vs := [.agg #[iv 0, .string ⟨([] : List UInt8).toArray⟩, .int .u32 0, iv 0, iv 0], iv 3]) rfl ⟨rvS rfl isAgg66 sizeOf66 rfl (hS8.bx (i := 0) ⟨rfl, rfl⟩), rfl, trivial⟩ rfl ⟨_, rfl, _, (iT im1 im8), ⟨rfl, hS8.sel [1] rfl, trivial⟩⟩)
            have hm := cfalse hb8 hm
            refine gF (d0 := 50) rfl rfl (by rw [hb8]; rfl) (gF (d0 := 50) rfl rfl (by rw [hb8]; rfl) (gF (d0 := 50) rfl rfl (by rw [hb8]; rfl) (pv (r_pkf rfl hb8 rfl) (pv (r_mb rfl) (gF (d0 := 55) rfl rfl rfl (gF (d0 := 55) rfl rfl rfl (gF (d0 := 55) rfl rfl rfl (pv (r_pkf rfl rfl rfl) (nil (t_thenR [(0, .string ⟨p0.toArray⟩), (2, pt b1 0), (59, .bool false)] ⟨rfl, rfl, rfl, trivial⟩ fun J => ?_))))))))))
            refine cnd (b := false) rfl (fun h => nomatch h) (fun _ => ?_)
            refine skp (t_then ?_)
            refine sq2 (rg (pv (r_bd (by kernel_rfl) rfl (u := .agg #[iv 0, .string ⟨([] : List UInt8).toArray⟩, .int .u32 0, iv 0, iv 0])) (wl rfl (st0B (q := 0) hS1 ⟨rfl, rfl⟩ rfl rfl rfl sizeOf66 rfl rfl rfl fun w9 im9 hS9 => ?_))))
            refine pv (r_zi rfl) (nil (t_then ?_))
            have hm := oI hm; subst hm
            exact rtn (retN (vs := [.agg #[iv 0, .string ⟨([] : List UInt8).toArray⟩, .int .u32 0, iv 0, iv 0], iv 3]) rfl ⟨rvS rfl isAgg66 sizeOf66 rfl (hS9.bx (i := 0) ⟨rfl, rfl⟩), rfl, trivial⟩ rfl ⟨_, rfl, _, (iT im1 im9), ⟨rfl, hS9.sel [1] rfl, trivial⟩⟩)
          have hm := cfalse hb7 hm
          refine gF (d0 := 45) rfl rfl (by rw [hb7]; rfl) (gF (d0 := 45) rfl rfl (by rw [hb7]; rfl) (gF (d0 := 45) rfl rfl (by rw [hb7]; rfl) (pv (r_pkf rfl hb7 rfl) (pv (r_mb rfl) (gF (d0 := 50) rfl rfl rfl (gF (d0 := 50) rfl rfl rfl (gF (d0 := 50) rfl rfl rfl (pv (r_pkf rfl rfl rfl) (pv (r_mb rfl) (gF (d0 := 55) rfl rfl rfl (gF (d0 := 55) rfl rfl rfl (gF (d0 := 55) rfl rfl rfl (pv (r_pkf rfl rfl rfl) (nil (t_thenR [(0, .string ⟨p0.toArray⟩), (2, pt b1 0), (59, .bool false)] ⟨rfl, rfl, rfl, trivial⟩ fun J => ?_)))))))))))))))
          refine cnd (b := false) rfl (fun h => nomatch h) (fun _ => ?_)
          refine skp (t_then ?_)
          refine sq2 (rg (pv (r_bd (by kernel_rfl) rfl (u := .agg #[iv 0, .string ⟨([] : List UInt8).toArray⟩, .int .u32 0, iv 0, iv 0])) (wl rfl (st0B (q := 0) hS1 ⟨rfl, rfl⟩ rfl rfl rfl sizeOf66 rfl rfl rfl fun w10 im10 hS10 => ?_))))
          refine pv (r_zi rfl) (nil (t_then ?_))
          have hm := oI hm; subst hm
          exact rtn (retN (vs := [.agg #[iv 0, .string ⟨([] : List UInt8).toArray⟩, .int .u32 0, iv 0, iv 0], iv 3]) rfl ⟨rvS rfl isAgg66 sizeOf66 rfl (hS10.bx (i := 0) ⟨rfl, rfl⟩), rfl, trivial⟩ rfl ⟨_, rfl, _, (iT im1 im10), ⟨rfl, hS10.sel [1] rfl, trivial⟩⟩)
        have hm := cfalse hb6 hm
        refine gF (d0 := 40) rfl rfl (by rw [hb6]; rfl) (gF (d0 := 40) rfl rfl (by rw [hb6]; rfl) (gF (d0 := 40) rfl rfl (by rw [hb6]; rfl) (pv (r_pkf rfl hb6 rfl) (pv (r_mb rfl) (gF (d0 := 45) rfl rfl rfl (gF (d0 := 45) rfl rfl rfl (gF (d0 := 45) rfl rfl rfl (pv (r_pkf rfl rfl rfl) (pv (r_mb rfl) (gF (d0 := 50) rfl rfl rfl (gF (d0 := 50) rfl rfl rfl (gF (d0 := 50) rfl rfl rfl (pv (r_pkf rfl rfl rfl) (pv (r_mb rfl) (gF (d0 := 55) rfl rfl rfl (gF (d0 := 55) rfl rfl rfl (gF (d0 := 55) rfl rfl rfl (pv (r_pkf rfl rfl rfl) (nil (t_thenR [(0, .string ⟨p0.toArray⟩), (2, pt b1 0), (59, .bool false)] ⟨rfl, rfl, rfl, trivial⟩ fun J => ?_))))))))))))))))))))
        refine cnd (b := false) rfl (fun h => nomatch h) (fun _ => ?_)
        refine skp (t_then ?_)
        refine sq2 (rg (pv (r_bd (by kernel_rfl) rfl (u := .agg #[iv 0, .string ⟨([] : List UInt8).toArray⟩, .int .u32 0, iv 0, iv 0])) (wl rfl (st0B (q := 0) hS1 ⟨rfl, rfl⟩ rfl rfl rfl sizeOf66 rfl rfl rfl fun w11 im11 hS11 => ?_))))
        refine pv (r_zi rfl) (nil (t_then ?_))
        have hm := oI hm; subst hm
        exact rtn (retN (vs := [.agg #[iv 0, .string ⟨([] : List UInt8).toArray⟩, .int .u32 0, iv 0, iv 0], iv 3]) rfl ⟨rvS rfl isAgg66 sizeOf66 rfl (hS11.bx (i := 0) ⟨rfl, rfl⟩), rfl, trivial⟩ rfl ⟨_, rfl, _, (iT im1 im11), ⟨rfl, hS11.sel [1] rfl, trivial⟩⟩)
      have hm := cfalse hb5 hm
      refine gF (d0 := 35) rfl rfl (by rw [hb5]; rfl) (gF (d0 := 35) rfl rfl (by rw [hb5]; rfl) (gF (d0 := 35) rfl rfl (by rw [hb5]; rfl) (pv (r_pkf rfl hb5 rfl) (pv (r_mb rfl) (gF (d0 := 40) rfl rfl rfl (gF (d0 := 40) rfl rfl rfl (gF (d0 := 40) rfl rfl rfl (pv (r_pkf rfl rfl rfl) (pv (r_mb rfl) (gF (d0 := 45) rfl rfl rfl (gF (d0 := 45) rfl rfl rfl (gF (d0 := 45) rfl rfl rfl (pv (r_pkf rfl rfl rfl) (pv (r_mb rfl) (gF (d0 := 50) rfl rfl rfl (gF (d0 := 50) rfl rfl rfl (gF (d0 := 50) rfl rfl rfl (pv (r_pkf rfl rfl rfl) (pv (r_mb rfl) (gF (d0 := 55) rfl rfl rfl (gF (d0 := 55) rfl rfl rfl (gF (d0 := 55) rfl rfl rfl (pv (r_pkf rfl rfl rfl) (nil (t_thenR [(0, .string ⟨p0.toArray⟩), (2, pt b1 0), (59, .bool false)] ⟨rfl, rfl, rfl, trivial⟩ fun J => ?_)))))))))))))))))))))))))
      refine cnd (b := false) rfl (fun h => nomatch h) (fun _ => ?_)
      refine skp (t_then ?_)
      refine sq2 (rg (pv (r_bd (by kernel_rfl) rfl (u := .agg #[iv 0, .string ⟨([] : List UInt8).toArray⟩, .int .u32 0, iv 0, iv 0])) (wl rfl (st0B (q := 0) hS1 ⟨rfl, rfl⟩ rfl rfl rfl sizeOf66 rfl rfl rfl fun w12 im12 hS12 => ?_))))
      refine pv (r_zi rfl) (nil (t_then ?_))
      have hm := oI hm; subst hm
      exact rtn (retN (vs := [.agg #[iv 0, .string ⟨([] : List UInt8).toArray⟩, .int .u32 0, iv 0, iv 0], iv 3]) rfl ⟨rvS rfl isAgg66 sizeOf66 rfl (hS12.bx (i := 0) ⟨rfl, rfl⟩), rfl, trivial⟩ rfl ⟨_, rfl, _, (iT im1 im12), ⟨rfl, hS12.sel [1] rfl, trivial⟩⟩)
    have hm := cfalse hb2 hm
    refine gF (d0 := 14) rfl rfl (by rw [hb2]; rfl) (gF (d0 := 14) rfl rfl (by rw [hb2]; rfl) (gF (d0 := 14) rfl rfl (by rw [hb2]; rfl) (pv (r_pkf rfl hb2 rfl) (nil (t_then ?_)))))
    refine cnd (b := false) rfl (fun h => nomatch h) (fun _ => ?_)
    refine skp (t_then ?_)
    refine sq2 (sq2 (rg (pv (r_mt rfl) (pv (r_lnt rfl underlying9) (pv (r_ib rfl rfl rfl) (pv (r_mb rfl) (?_)))))))
    rcases Bool.eq_false_or_eq_true (decide (3 ≤ (List.length p0 : Int))) with hb17 | hb17
    · have hm := ctrue hb17 hm
      obtain ⟨u12, hx13, hm⟩ := bindS hm
      refine gT (d0 := 35) rfl rfl hb17 (pv (r_mt rfl) (gT (d0 := 35) rfl rfl hb17 (pv (r_sx rfl rfl hx13 underlying9) (gT (d0 := 35) rfl rfl hb17 (pv (r_ib rfl rfl rfl) (pv (r_pkt rfl hb17 rfl) (pv (r_mb rfl) (?_))))))))
      rcases Bool.eq_false_or_eq_true ((UInt8.toNat u12 : Int) == 39) with hb18 | hb18
      · have hm := ctrue hb18 hm
        obtain ⟨u13, hx14, hm⟩ := bindS hm
        refine gT (d0 := 40) rfl rfl hb18 (pv (r_mt rfl) (gT (d0 := 40) rfl rfl hb18 (pv (r_sx rfl rfl hx14 underlying9) (gT (d0 := 40) rfl rfl hb18 (pv (r_ib rfl rfl rfl) (pv (r_pkt rfl hb18 rfl) (pv (r_mb rfl) (?_))))))))
        rcases Bool.eq_false_or_eq_true (decide (32 ≤ (UInt8.toNat u13 : Int))) with hb19 | hb19
        · have hm := ctrue hb19 hm
          obtain ⟨u14, hx15, hm⟩ := bindS hm
          refine gT (d0 := 45) rfl rfl hb19 (pv (r_mt rfl) (gT (d0 := 45) rfl rfl hb19 (pv (r_sx rfl rfl hx15 underlying9) (gT (d0 := 45) rfl rfl hb19 (pv (r_ib rfl rfl rfl) (pv (r_pkt rfl hb19 rfl) (pv (r_mb rfl) (?_))))))))
          rcases Bool.eq_false_or_eq_true (decide ((UInt8.toNat u14 : Int) ≤ 126)) with hb20 | hb20
          · have hm := ctrue hb20 hm
            obtain ⟨u15, hx16, hm⟩ := bindS hm
            refine gT (d0 := 50) rfl rfl hb20 (pv (r_mt rfl) (gT (d0 := 50) rfl rfl hb20 (pv (r_sx rfl rfl hx16 underlying9) (gT (d0 := 50) rfl rfl hb20 (pv (r_ib rfl rfl rfl) (pv (r_pkt rfl hb20 rfl) (pv (r_mb rfl) (?_))))))))
            rcases Bool.eq_false_or_eq_true ((UInt8.toNat u15 : Int) != 39) with hb21 | hb21
            · have hm := ctrue hb21 hm
              obtain ⟨u16, hx17, hm⟩ := bindS hm
              refine gT (d0 := 55) rfl rfl hb21 (pv (r_mt rfl) (gT (d0 := 55) rfl rfl hb21 (pv (r_sx rfl rfl hx17 underlying9) (gT (d0 := 55) rfl rfl hb21 (pv (r_ib rfl rfl rfl) (pv (r_pkt rfl hb21 rfl) (nil (t_thenR [(0, .string ⟨p0.toArray⟩), (2, pt b1 0), (59, .bool ((UInt8.toNat u16 : Int) != 92))] ⟨rfl, rfl, rfl, trivial⟩ fun J => ?_))))))))
              refine cnd rfl (fun hb22 => ?_) (fun hb22 => ?_)
              · have hm := ctrue hb22 hm
                refine sq2 (rs [0, 0, 0, 0, 0, 0, 2, 0] [0, 1, 2, 3, 4, 5, 6, 7] mix (by kernel_rfl) hS1.lt fun w13 i2 => ?_)
                have im13 := i2.imm
                have hS13 := hS1.keep i2 (fun _ h => h)
                obtain ⟨u17, hx18, hm⟩ := bindS hm
                obtain ⟨u18, hx19, hm⟩ := bindS hm
                refine s0 rfl trivial (fun _ => r_mt rfl) rfl (s0 rfl trivial (fun _ => r_ss rfl rfl ⟨_, rfl⟩ hx18 underlying9) rfl (s0 rfl trivial (fun _ => r_mt rfl) rfl (s0 rfl trivial (fun _ => r_sx rfl rfl hx19 underlying9) rfl (s0 rfl trivial (fun _ => r_cv rfl underlying5 underlying56) rfl (s0 rfl trivial (fun _ => r_bd (by kernel_rfl) rfl (u := .agg #[iv 3, .string ⟨u17.toArray⟩, .int .u32 (IntKind.wrap .u32 (UInt8.toNat u18 : Int)), iv 0, iv 0])) rfl (s2 [] rfl trivial rfl (by kernel_rfl) (st0B (q := 0) hS13 ⟨rfl, rfl⟩ rfl rfl rfl sizeOf66 rfl rfl rfl fun w14 im14 hS14 => ?_)))))))
                refine ⟨st0, ?_⟩
                refine s0 rfl trivial (fun _ => r_zi rfl) rfl (se (t_then ?_))
                have hm := oI hm; subst hm
                exact rtn (r_then (retN (vs := [.agg #[iv 3, .string ⟨u17.toArray⟩, .int .u32 (IntKind.wrap .u32 (UInt8.toNat u18 : Int)), iv 0, iv 0], iv 0]) rfl ⟨rvS rfl isAgg66 sizeOf66 rfl (hS14.bx (i := 0) ⟨rfl, rfl⟩), rfl, trivial⟩ rfl ⟨_, rfl, _, (iT im1 (iT im13 im14)), ⟨rfl, hS14.sel [1] rfl, trivial⟩⟩))
              have hm := cfalse hb22 hm
              refine skp (t_then ?_)
              refine sq2 (rg (pv (r_bd (by kernel_rfl) rfl (u := .agg #[iv 0, .string ⟨([] : List UInt8).toArray⟩, .int .u32 0, iv 0, iv 0])) (wl rfl (st0B (q := 0) hS1 ⟨rfl, rfl⟩ rfl rfl rfl sizeOf66 rfl rfl rfl fun w15 im15 hS15 => ?_))))
              refine pv (r_zi rfl) (nil (t_then ?_))
              have hm := oI hm; subst hm
              exact rtn (retN (vs := [.agg #[iv 0, .string ⟨([] : List UInt8).toArray⟩, .int .u32 0, iv 0, iv 0], iv 3]) rfl ⟨rvS rfl isAgg66 sizeOf66 rfl (hS15.bx (i := 0) ⟨rfl, rfl⟩), rfl, trivial⟩ rfl ⟨_, rfl, _, (iT im1 im15), ⟨rfl, hS15.sel [1] rfl, trivial⟩⟩)
            have hm := cfalse hb21 hm
            refine gF (d0 := 55) rfl rfl (by rw [hb21]; rfl) (gF (d0 := 55) rfl rfl (by rw [hb21]; rfl) (gF (d0 := 55) rfl rfl (by rw [hb21]; rfl) (pv (r_pkf rfl hb21 rfl) (nil (t_thenR [(0, .string ⟨p0.toArray⟩), (2, pt b1 0), (59, .bool false)] ⟨rfl, rfl, rfl, trivial⟩ fun J => ?_)))))
            refine cnd (b := false) rfl (fun h => nomatch h) (fun _ => ?_)
            refine skp (t_then ?_)
            refine sq2 (rg (pv (r_bd (by kernel_rfl) rfl (u := .agg #[iv 0, .string ⟨([] : List UInt8).toArray⟩, .int .u32 0, iv 0, iv 0])) (wl rfl (st0B (q := 0) hS1 ⟨rfl, rfl⟩ rfl rfl rfl sizeOf66 rfl rfl rfl fun w16 im16 hS16 => ?_))))
            refine pv (r_zi rfl) (nil (t_then ?_))
            have hm := oI hm; subst hm
            exact rtn (retN (vs := [.agg #[iv 0, .string ⟨([] : List UInt8).toArray⟩, .int .u32 0, iv 0, iv 0], iv 3]) rfl ⟨rvS rfl isAgg66 sizeOf66 rfl (hS16.bx (i := 0) ⟨rfl, rfl⟩), rfl, trivial⟩ rfl ⟨_, rfl, _, (iT im1 im16), ⟨rfl, hS16.sel [1] rfl, trivial⟩⟩)
          have hm := cfalse hb20 hm
          refine gF (d0 := 50) rfl rfl (by rw [hb20]; rfl) (gF (d0 := 50) rfl rfl (by rw [hb20]; rfl) (gF (d0 := 50) rfl rfl (by rw [hb20]; rfl) (pv (r_pkf rfl hb20 rfl) (pv (r_mb rfl) (gF (d0 := 55) rfl rfl rfl (gF (d0 := 55) rfl rfl rfl (gF (d0 := 55) rfl rfl rfl (pv (r_pkf rfl rfl rfl) (nil (t_thenR [(0, .string ⟨p0.toArray⟩), (2, pt b1 0), (59, .bool false)] ⟨rfl, rfl, rfl, trivial⟩ fun J => ?_))))))))))
          refine cnd (b := false) rfl (fun h => nomatch h) (fun _ => ?_)
          refine skp (t_then ?_)
          refine sq2 (rg (pv (r_bd (by kernel_rfl) rfl (u := .agg #[iv 0, .string ⟨([] : List UInt8).toArray⟩, .int .u32 0, iv 0, iv 0])) (wl rfl (st0B (q := 0) hS1 ⟨rfl, rfl⟩ rfl rfl rfl sizeOf66 rfl rfl rfl fun w17 im17 hS17 => ?_))))
          refine pv (r_zi rfl) (nil (t_then ?_))
          have hm := oI hm; subst hm
          exact rtn (retN (vs := [.agg #[iv 0, .string ⟨([] : List UInt8).toArray⟩, .int .u32 0, iv 0, iv 0], iv 3]) rfl ⟨rvS rfl isAgg66 sizeOf66 rfl (hS17.bx (i := 0) ⟨rfl, rfl⟩), rfl, trivial⟩ rfl ⟨_, rfl, _, (iT im1 im17), ⟨rfl, hS17.sel [1] rfl, trivial⟩⟩)
        have hm := cfalse hb19 hm
        refine gF (d0 := 45) rfl rfl (by rw [hb19]; rfl) (gF (d0 := 45) rfl rfl (by rw [hb19]; rfl) (gF (d0 := 45) rfl rfl (by rw [hb19]; rfl) (pv (r_pkf rfl hb19 rfl) (pv (r_mb rfl) (gF (d0 := 50) rfl rfl rfl (gF (d0 := 50) rfl rfl rfl (gF (d0 := 50) rfl rfl rfl (pv (r_pkf rfl rfl rfl) (pv (r_mb rfl) (gF (d0 := 55) rfl rfl rfl (gF (d0 := 55) rfl rfl rfl (gF (d0 := 55) rfl rfl rfl (pv (r_pkf rfl rfl rfl) (nil (t_thenR [(0, .string ⟨p0.toArray⟩), (2, pt b1 0), (59, .bool false)] ⟨rfl, rfl, rfl, trivial⟩ fun J => ?_)))))))))))))))
        refine cnd (b := false) rfl (fun h => nomatch h) (fun _ => ?_)
        refine skp (t_then ?_)
        refine sq2 (rg (pv (r_bd (by kernel_rfl) rfl (u := .agg #[iv 0, .string ⟨([] : List UInt8).toArray⟩, .int .u32 0, iv 0, iv 0])) (wl rfl (st0B (q := 0) hS1 ⟨rfl, rfl⟩ rfl rfl rfl sizeOf66 rfl rfl rfl fun w18 im18 hS18 => ?_))))
        refine pv (r_zi rfl) (nil (t_then ?_))
        have hm := oI hm; subst hm
        exact rtn (retN (vs := [.agg #[iv 0, .string ⟨([] : List UInt8).toArray⟩, .int .u32 0, iv 0, iv 0], iv 3]) rfl ⟨rvS rfl isAgg66 sizeOf66 rfl (hS18.bx (i := 0) ⟨rfl, rfl⟩), rfl, trivial⟩ rfl ⟨_, rfl, _, (iT im1 im18), ⟨rfl, hS18.sel [1] rfl, trivial⟩⟩)
      have hm := cfalse hb18 hm
      refine gF (d0 := 40) rfl rfl (by rw [hb18]; rfl) (gF (d0 := 40) rfl rfl (by rw [hb18]; rfl) (gF (d0 := 40) rfl rfl (by rw [hb18]; rfl) (pv (r_pkf rfl hb18 rfl) (pv (r_mb rfl) (gF (d0 := 45) rfl rfl rfl (gF (d0 := 45) rfl rfl rfl (gF (d0 := 45) rfl rfl rfl (pv (r_pkf rfl rfl rfl) (pv (r_mb rfl) (gF (d0 := 50) rfl rfl rfl (gF (d0 := 50) rfl rfl rfl (gF (d0 := 50) rfl rfl rfl (pv (r_pkf rfl rfl rfl) (pv (r_mb rfl) (gF (d0 := 55) rfl rfl rfl (gF (d0 := 55) rfl rfl rfl (gF (d0 := 55) rfl rfl rfl (pv (r_pkf rfl rfl rfl) (nil (t_thenR [(0, .string ⟨p0.toArray⟩), (2, pt b1 0), (59, .bool false)] ⟨rfl, rfl, rfl, trivial⟩ fun J => ?_))))))))))))))))))))
      refine cnd (b := false) rfl (fun h => nomatch h) (fun _ => ?_)
      refine skp (t_then ?_)
      refine sq2 (rg (pv (r_bd (by kernel_rfl) rfl (u := .agg #[iv 0, .string ⟨([] : List UInt8).toArray⟩, .int .u32 0, iv 0, iv 0])) (wl rfl (st0B (q := 0) hS1 ⟨rfl, rfl⟩ rfl rfl rfl sizeOf66 rfl rfl rfl fun w19 im19 hS19 => ?_))))
      refine pv (r_zi rfl) (nil (t_then ?_))
      have hm := oI hm; subst hm
      exact rtn (retN (vs := [.agg #[iv 0, .string ⟨([] : List UInt8).toArray⟩, .int .u32 0, iv 0, iv 0], iv 3]) rfl ⟨rvS rfl isAgg66 sizeOf66 rfl (hS19.bx (i := 0) ⟨rfl, rfl⟩), rfl, trivial⟩ rfl ⟨_, rfl, _, (iT im1 im19), ⟨rfl, hS19.sel [1] rfl, trivial⟩⟩)
    have hm := cfalse hb17 hm
    refine gF (d0 := 35) rfl rfl (by rw [hb17]; rfl) (gF (d0 := 35) rfl rfl (by rw [hb17]; rfl) (gF (d0 := 35) rfl rfl (by rw [hb17]; rfl) (pv (r_pkf rfl hb17 rfl) (pv (r_mb rfl) (gF (d0 := 40) rfl rfl rfl (gF (d0 := 40) rfl rfl rfl (gF (d0 := 40) rfl rfl rfl (pv (r_pkf rfl rfl rfl) (pv (r_mb rfl) (gF (d0 := 45) rfl rfl rfl (gF (d0 := 45) rfl rfl rfl (gF (d0 := 45) rfl rfl rfl (pv (r_pkf rfl rfl rfl) (pv (r_mb rfl) (gF (d0 := 50) rfl rfl rfl (gF (d0 := 50) rfl rfl rfl (gF (d0 := 50) rfl rfl rfl (pv (r_pkf rfl rfl rfl) (pv (r_mb rfl) (gF (d0 := 55) rfl rfl rfl (gF (d0 := 55) rfl rfl rfl (gF (d0 := 55) rfl rfl rfl (pv (r_pkf rfl rfl rfl) (nil (t_thenR [(0, .string ⟨p0.toArray⟩), (2, pt b1 0), (59, .bool false)] ⟨rfl, rfl, rfl, trivial⟩ fun J => ?_)))))))))))))))))))))))))
    refine cnd (b := false) rfl (fun h => nomatch h) (fun _ => ?_)
    refine skp (t_then ?_)
    refine sq2 (rg (pv (r_bd (by kernel_rfl) rfl (u := .agg #[iv 0, .string ⟨([] : List UInt8).toArray⟩, .int .u32 0, iv 0, iv 0])) (wl rfl (st0B (q := 0) hS1 ⟨rfl, rfl⟩ rfl rfl rfl sizeOf66 rfl rfl rfl fun w20 im20 hS20 => ?_))))
    refine pv (r_zi rfl) (nil (t_then ?_))
    have hm := oI hm; subst hm
    exact rtn (retN (vs := [.agg #[iv 0, .string ⟨([] : List UInt8).toArray⟩, .int .u32 0, iv 0, iv 0], iv 3]) rfl ⟨rvS rfl isAgg66 sizeOf66 rfl (hS20.bx (i := 0) ⟨rfl, rfl⟩), rfl, trivial⟩ rfl ⟨_, rfl, _, (iT im1 im20), ⟨rfl, hS20.sel [1] rfl, trivial⟩⟩)
  have hm := cfalse hb1 hm
  refine gF (d0 := 9) rfl rfl (by rw [hb1]; rfl) (gF (d0 := 9) rfl rfl (by rw [hb1]; rfl) (gF (d0 := 9) rfl rfl (by rw [hb1]; rfl) (pv (r_pkf rfl hb1 rfl) (pv (r_mb rfl) (gF (d0 := 14) rfl rfl rfl (gF (d0 := 14) rfl rfl rfl (gF (d0 := 14) rfl rfl rfl (pv (r_pkf rfl rfl rfl) (nil (t_then ?_))))))))))
  refine cnd (b := false) rfl (fun h => nomatch h) (fun _ => ?_)
  refine skp (t_then ?_)
  refine sq2 (sq2 (rg (pv (r_mt rfl) (pv (r_lnt rfl underlying9) (pv (r_ib rfl rfl rfl) (pv (r_mb rfl) (?_)))))))
  rcases Bool.eq_false_or_eq_true (decide (3 ≤ (List.length p0 : Int))) with hb29 | hb29
  · have hm := ctrue hb29 hm
    obtain ⟨u19, hx20, hm⟩ := bindS hm
    refine gT (d0 := 35) rfl rfl hb29 (pv (r_mt rfl) (gT (d0 := 35) rfl rfl hb29 (pv (r_sx rfl rfl hx20 underlying9) (gT (d0 := 35) rfl rfl hb29 (pv (r_ib rfl rfl rfl) (pv (r_pkt rfl hb29 rfl) (pv (r_mb rfl) (?_))))))))
    rcases Bool.eq_false_or_eq_true ((UInt8.toNat u19 : Int) == 39) with hb30 | hb30
    · have hm := ctrue hb30 hm
      obtain ⟨u20, hx21, hm⟩ := bindS hm
      refine gT (d0 := 40) rfl rfl hb30 (pv (r_mt rfl) (gT (d0 := 40) rfl rfl hb30 (pv (r_sx rfl rfl hx21 underlying9) (gT (d0 := 40) rfl rfl hb30 (pv (r_ib rfl rfl rfl) (pv (r_pkt rfl hb30 rfl) (pv (r_mb rfl) (?_))))))))
      rcases Bool.eq_false_or_eq_true (decide (32 ≤ (UInt8.toNat u20 : Int))) with hb31 | hb31
      · have hm := ctrue hb31 hm
        obtain ⟨u21, hx22, hm⟩ := bindS hm
        refine gT (d0 := 45) rfl rfl hb31 (pv (r_mt rfl) (gT (d0 := 45) rfl rfl hb31 (pv (r_sx rfl rfl hx22 underlying9) (gT (d0 := 45) rfl rfl hb31 (pv (r_ib rfl rfl rfl) (pv (r_pkt rfl hb31 rfl) (pv (r_mb rfl) (?_))))))))
        rcases Bool.eq_false_or_eq_true (decide ((UInt8.toNat u21 : Int) ≤ 126)) with hb32 | hb32
        · have hm := ctrue hb32 hm
          obtain ⟨u22, hx23, hm⟩ := bindS hm
          refine gT (d0 := 50) rfl rfl hb32 (pv (r_mt rfl) (gT (d0 := 50) rfl rfl hb32 (pv (r_sx rfl rfl hx23 underlying9) (gT (d0 := 50) rfl rfl hb32 (pv (r_ib rfl rfl rfl) (pv (r_pkt rfl hb32 rfl) (pv (r_mb rfl) (?_))))))))
          rcases Bool.eq_false_or_eq_true ((UInt8.toNat u22 : Int) != 39) with hb33 | hb33
          · have hm := ctrue hb33 hm
            obtain ⟨u23, hx24, hm⟩ := bindS hm
            refine gT (d0 := 55) rfl rfl hb33 (pv (r_mt rfl) (gT (d0 := 55) rfl rfl hb33 (pv (r_sx rfl rfl hx24 underlying9) (gT (d0 := 55) rfl rfl hb33 (pv (r_ib rfl rfl rfl) (pv (r_pkt rfl hb33 rfl) (nil (t_thenR [(0, .string ⟨p0.toArray⟩), (2, pt b1 0), (59, .bool ((UInt8.toNat u23 : Int) != 92))] ⟨rfl, rfl, rfl, trivial⟩ fun J => ?_))))))))
            refine cnd rfl (fun hb34 => ?_) (fun hb34 => ?_)
            · have hm := ctrue hb34 hm
              refine sq2 (rs [0, 0, 0, 0, 0, 0, 2, 0] [0, 1, 2, 3, 4, 5, 6, 7] mix (by kernel_rfl) hS1.lt fun w21 i3 => ?_)
              have im21 := i3.imm
              have hS21 := hS1.keep i3 (fun _ h => h)
              obtain ⟨u24, hx25, hm⟩ := bindS hm
              obtain ⟨u25, hx26, hm⟩ := bindS hm
              refine s0 rfl trivial (fun _ => r_mt rfl) rfl (s0 rfl trivial (fun _ => r_ss rfl rfl ⟨_, rfl⟩ hx25 underlying9) rfl (s0 rfl trivial (fun _ => r_mt rfl) rfl (s0 rfl trivial (fun _ => r_sx rfl rfl hx26 underlying9) rfl (s0 rfl trivial (fun _ => r_cv rfl underlying5 underlying56) rfl (s0 rfl trivial (fun _ => r_bd (by kernel_rfl) rfl (u := .agg #[iv 3, .string ⟨u24.toArray⟩, .int .u32 (IntKind.wrap .u32 (UInt8.toNat u25 : Int)), iv 0, iv 0])) rfl (s2 [] rfl trivial rfl (by kernel_rfl) (st0B (q := 0) hS21 ⟨rfl, rfl⟩ rfl rfl rfl sizeOf66 rfl rfl rfl fun w22 im22 hS22 => ?_)))))))
              refine ⟨st0, ?_⟩
              refine s0 rfl trivial (fun _ => r_zi rfl) rfl (se (t_then ?_))
              have hm := oI hm; subst hm
              exact rtn (r_then (retN (vs := [.agg #[iv 3, .string ⟨u24.toArray⟩, .int .u32 (IntKind.wrap .u32 (UInt8.toNat u25 : Int)), iv 0, iv 0], iv 0]) rfl ⟨rvS rfl isAgg66 sizeOf66 rfl (hS22.bx (i := 0) ⟨rfl, rfl⟩), rfl, trivial⟩ rfl ⟨_, rfl, _, (iT im1 (iT im21 im22)), ⟨rfl, hS22.sel [1] rfl, trivial⟩⟩))
            have hm := cfalse hb34 hm
            refine skp (t_then ?_)
            refine sq2 (rg (pv (r_bd (by kernel_rfl) rfl (u := .agg #[iv 0, .string ⟨([] : List UInt8).toArray⟩, .int .u32 0, iv 0, iv 0])) (wl rfl (st0B (q := 0) hS1 ⟨rfl, rfl⟩ rfl rfl rfl sizeOf66 rfl rfl rfl fun w23 im23 hS23 => ?_))))
            refine pv (r_zi rfl) (nil (t_then ?_))
            have hm := oI hm; subst hm
            exact rtn (retN (vs := [.agg #[iv 0, .string ⟨([] : List UInt8).toArray⟩, .int .u32 0, iv 0, iv 0], iv 3]) rfl ⟨rvS rfl isAgg66 sizeOf66 rfl (hS23.bx (i := 0) ⟨rfl, rfl⟩), rfl, trivial⟩ rfl ⟨_, rfl, _, (iT im1 im23), ⟨rfl, hS23.sel [1] rfl, trivial⟩⟩)
          have hm := cfalse hb33 hm
          refine gF (d0 := 55) rfl rfl (by rw [hb33]; rfl) (gF (d0 := 55) rfl rfl (by rw [hb33]; rfl) (gF (d0 := 55) rfl rfl (by rw [hb33]; rfl) (pv (r_pkf rfl hb33 rfl) (nil (t_thenR [(0, .string ⟨p0.toArray⟩), (2, pt b1 0), (59, .bool false)] ⟨rfl, rfl, rfl, trivial⟩ fun J => ?_)))))
          refine cnd (b := false) rfl (fun h => nomatch h) (fun _ => ?_)
          refine skp (t_then ?_)
          refine sq2 (rg (pv (r_bd (by kernel_rfl) rfl (u := .agg #[iv 0, .string ⟨([] : List UInt8).toArray⟩, .int .u32 0, iv 0, iv 0])) (wl rfl (st0B (q := 0) hS1 ⟨rfl, rfl⟩ rfl rfl rfl sizeOf66 rfl rfl rfl fun w24 im24 hS24 => ?_))))
          refine pv (r_zi rfl) (nil (t_then ?_))
          have hm := oI hm; subst hm
          exact rtn (retN (vs := [.agg #[iv 0, .string ⟨([] : List UInt8).toArray⟩, .int .u32 0, iv 0, iv 0], iv 3]) rfl ⟨rvS rfl isAgg66 sizeOf66 rfl (hS24.bx (i := 0) ⟨rfl, rfl⟩), rfl, trivial⟩ rfl ⟨_, rfl, _, (iT im1 im24), ⟨rfl, hS24.sel [1] rfl, trivial⟩⟩)
        have hm := cfalse hb32 hm
        refine gF (d0 := 50) rfl rfl (by rw [hb32]; rfl) (gF (d0 := 50) rfl rfl (by rw [hb32]; rfl) (gF (d0 := 50) rfl rfl (by rw [hb32]; rfl) (pv (r_pkf rfl hb32 rfl) (pv (r_mb rfl) (gF (d0 := 55) rfl rfl rfl (gF (d0 := 55) rfl rfl rfl (gF (d0 := 55) rfl rfl rfl (pv (r_pkf rfl rfl rfl) (nil (t_thenR [(0, .string ⟨p0.toArray⟩), (2, pt b1 0), (59, .bool false)] ⟨rfl, rfl, rfl, trivial⟩ fun J => ?_))))))))))
        refine cnd (b := false) rfl (fun h => nomatch h) (fun _ => ?_)
        refine skp (t_then ?_)
        refine sq2 (rg (pv (r_bd (by kernel_rfl) rfl (u := .agg #[iv 0, .string ⟨([] : List UInt8).toArray⟩, .int .u32 0, iv 0, iv 0])) (wl rfl (st0B (q := 0) hS1 ⟨rfl, rfl⟩ rfl rfl rfl sizeOf66 rfl rfl rfl fun w25 im25 hS25 => ?_))))
        refine pv (r_zi rfl) (nil (t_then ?_))
        have hm := oI hm; subst hm
        exact rtn (retN (vs := [.agg #[iv 0, .string ⟨([] : List UInt8).toArray⟩, .int .u32 0, iv 0, iv 0], iv 3]) rfl ⟨rvS rfl isAgg66 sizeOf66 rfl (hS25.bx (i := 0) ⟨rfl, rfl⟩), rfl, trivial⟩ rfl ⟨_, rfl, _, (iT im1 im25), ⟨rfl, hS25.sel [1] rfl, trivial⟩⟩)
      have hm := cfalse hb31 hm
      refine gF (d0 := 45) rfl rfl (by rw [hb31]; rfl) (gF (d0 := 45) rfl rfl (by rw [hb31]; rfl) (gF (d0 := 45) rfl rfl (by rw [hb31]; rfl) (pv (r_pkf rfl hb31 rfl) (pv (r_mb rfl) (gF (d0 := 50) rfl rfl rfl (gF (d0 := 50) rfl rfl rfl (gF (d0 := 50) rfl rfl rfl (pv (r_pkf rfl rfl rfl) (pv (r_mb rfl) (gF (d0 := 55) rfl rfl rfl (gF (d0 := 55) rfl rfl rfl (gF (d0 := 55) rfl rfl rfl (pv (r_pkf rfl rfl rfl) (nil (t_thenR [(0, .string ⟨p0.toArray⟩), (2, pt b1 0), (59, .bool false)] ⟨rfl, rfl, rfl, trivial⟩ fun J => ?_)))))))))))))))
      refine cnd (b := false) rfl (fun h => nomatch h) (fun _ => ?_)
      refine skp (t_then ?_)
      refine sq2 (rg (pv (r_bd (by kernel_rfl) rfl (u := .agg #[iv 0, .string ⟨([] : List UInt8).toArray⟩, .int .u32 0, iv 0, iv 0])) (wl rfl (st0B (q := 0) hS1 ⟨rfl, rfl⟩ rfl rfl rfl sizeOf66 rfl rfl rfl fun w26 im26 hS26 => ?_))))
      refine pv (r_zi rfl) (nil (t_then ?_))
      have hm := oI hm; subst hm
      exact rtn (retN (vs := [.agg #[iv 0, .string ⟨([] : List UInt8).toArray⟩, .int .u32 0, iv 0, iv 0], iv 3]) rfl ⟨rvS rfl isAgg66 sizeOf66 rfl (hS26.bx (i := 0) ⟨rfl, rfl⟩), rfl, trivial⟩ rfl ⟨_, rfl, _, (iT im1 im26), ⟨rfl, hS26.sel [1] rfl, trivial⟩⟩)
    have hm := cfalse hb30 hm
    refine gF (d0 := 40) rfl rfl (by rw [hb30]; rfl) (gF (d0 := 40) rfl rfl (by rw [hb30]; rfl) (gF (d0 := 40) rfl rfl (by rw [hb30]; rfl) (pv (r_pkf rfl hb30 rfl) (pv (r_mb rfl) (gF (d0 := 45) rfl rfl rfl (gF (d0 := 45) rfl rfl rfl (gF (d0 := 45) rfl rfl rfl (pv (r_pkf rfl rfl rfl) (pv (r_mb rfl) (gF (d0 := 50) rfl rfl rfl (gF (d0 := 50) rfl rfl rfl (gF (d0 := 50) rfl rfl rfl (pv (r_pkf rfl rfl rfl) (pv (r_mb rfl) (gF (d0 := 55) rfl rfl rfl (gF (d0 := 55) rfl rfl rfl (gF (d0 := 55) rfl rfl rfl (pv (r_pkf rfl rfl rfl) (nil (t_thenR [(0, .string ⟨p0.toArray⟩), (2, pt b1 0), (59, .bool false)] ⟨rfl, rfl, rfl, trivial⟩ fun J => ?_))))))))))))))))))))
    refine cnd (b := false) rfl (fun h => nomatch h) (fun _ => ?_)
    refine skp (t_then ?_)
    refine sq2 (rg (pv (r_bd (by kernel_rfl) rfl (u := .agg #[iv 0, .string ⟨([] : List UInt8).toArray⟩, .int .u32 0, iv 0, iv 0])) (wl rfl (st0B (q := 0) hS1 ⟨rfl, rfl⟩ rfl rfl rfl sizeOf66 rfl rfl rfl fun w27 im27 hS27 => ?_))))
    refine pv (r_zi rfl) (nil (t_then ?_))
    have hm := oI hm; subst hm
    exact rtn (retN (vs := [.agg #[iv 0, .string ⟨([] : List UInt8).toArray⟩, .int .u32 0, iv 0, iv 0], iv 3]) rfl ⟨rvS rfl isAgg66 sizeOf66 rfl (hS27.bx (i := 0) ⟨rfl, rfl⟩), rfl, trivial⟩ rfl ⟨_, rfl, _, (iT im1 im27), ⟨rfl, hS27.sel [1] rfl, trivial⟩⟩)
  have hm := cfalse hb29 hm
  refine gF (d0 := 35) rfl rfl (by rw [hb29]; rfl) (gF (d0 := 35) rfl rfl (by rw [hb29]; rfl) (gF (d0 := 35) rfl rfl (by rw [hb29]; rfl) (pv (r_pkf rfl hb29 rfl) (pv (r_mb rfl) (gF (d0 := 40) rfl rfl rfl (gF (d0 := 40) rfl rfl rfl (gF (d0 := 40) rfl rfl rfl (pv (r_pkf rfl rfl rfl) (pv (r_mb rfl) (gF (d0 := 45) rfl rfl rfl (gF (d0 := 45) rfl rfl rfl (gF (d0 := 45) rfl rfl rfl (pv (r_pkf rfl rfl rfl) (pv (r_mb rfl) (gF (d0 := 50) rfl rfl rfl (gF (d0 := 50) rfl rfl rfl (gF (d0 := 50) rfl rfl rfl (pv (r_pkf rfl rfl rfl) (pv (r_mb rfl) (gF (d0 := 55) rfl rfl rfl (gF (d0 := 55) rfl rfl rfl (gF (d0 := 55) rfl rfl rfl (pv (r_pkf rfl rfl rfl) (nil (t_thenR [(0, .string ⟨p0.toArray⟩), (2, pt b1 0), (59, .bool false)] ⟨rfl, rfl, rfl, trivial⟩ fun J => ?_)))))))))))))))))))))))))
  refine cnd (b := false) rfl (fun h => nomatch h) (fun _ => ?_)
  refine skp (t_then ?_)
  refine sq2 (rg (pv (r_bd (by kernel_rfl) rfl (u := .agg #[iv 0, .string ⟨([] : List UInt8).toArray⟩, .int .u32 0, iv 0, iv 0])) (wl rfl (st0B (q := 0) hS1 ⟨rfl, rfl⟩ rfl rfl rfl sizeOf66 rfl rfl rfl fun w28 im28 hS28 => ?_))))
  refine pv (r_zi rfl) (nil (t_then ?_))
  have hm := oI hm; subst hm
  exact rtn (retN (vs := [.agg #[iv 0, .string ⟨([] : List UInt8).toArray⟩, .int .u32 0, iv 0, iv 0], iv 3]) rfl ⟨rvS rfl isAgg66 sizeOf66 rfl (hS28.bx (i := 0) ⟨rfl, rfl⟩), rfl, trivial⟩ rfl ⟨_, rfl, _, (iT im1 im28), ⟨rfl, hS28.sel [1] rfl, trivial⟩⟩)

theorem lex_mark_sim {p0 : List UInt8} {r : (List UInt8)} (hS : Sep g T0 w0 [R])  (hm : lex_mark p0 = some r) :
    Calls Tryz.prog 31 #[.string ⟨p0.toArray⟩] w0 (RetS T0 w0 fun T w v => v = .string ⟨r.toArray⟩ ∧ Sep g T w [R] ∧ True) := by
  refine enter (args := [.string ⟨p0.toArray⟩]) Tryz.func31 rfl Tryz.ntmps31 rfl fun J => ?_
  unfold lex_mark at hm
  refine sq2 (rg (pv (r_zt rfl) (nil (t_then ?_))))
  refine sq2 (rg (pv (r_bd (by kernel_rfl) rfl (u := .agg #[.string ⟨([60, 60, 61] : List UInt8).toArray⟩, .string ⟨([62, 62, 61] : List UInt8).toArray⟩, .string ⟨([45, 62] : List UInt8).toArray⟩, .string ⟨([43, 43] : List UInt8).toArray⟩, .string ⟨([45, 45] : List UInt8).toArray⟩, .string ⟨([60, 60] : List UInt8).toArray⟩, .string ⟨([62, 62] : List UInt8).toArray⟩, .string ⟨([60, 61] : List UInt8).toArray⟩, .string ⟨([62, 61] : List UInt8).toArray⟩, .string ⟨([61, 61] : List UInt8).toArray⟩, .string ⟨([33, 61] : List UInt8).toArray⟩, .string ⟨([38, 38] : List UInt8).toArray⟩, .string ⟨([124, 124] : List UInt8).toArray⟩, .string ⟨([43, 61] : List UInt8).toArray⟩, .string ⟨([45, 61] : List UInt8).toArray⟩, .string ⟨([42, 61] : List UInt8).toArray⟩, .string ⟨([47, 61] : List UInt8).toArray⟩, .string ⟨([37, 61] : List UInt8).toArray⟩, .string ⟨([38, 61] : List UInt8).toArray⟩, .string ⟨([124, 61] : List UInt8).toArray⟩, .string ⟨([94, 61] : List UInt8).toArray⟩, .string ⟨([43] : List UInt8).toArray⟩, .string ⟨([45] : List UInt8).toArray⟩, .string ⟨([42] : List UInt8).toArray⟩, .string ⟨([47] : List UInt8).toArray⟩, .string ⟨([37] : List UInt8).toArray⟩, .string ⟨([38] : List UInt8).toArray⟩, .string ⟨([124] : List UInt8).toArray⟩, .string ⟨([94] : List UInt8).toArray⟩, .string ⟨([126] : List UInt8).toArray⟩, .string ⟨([33] : List UInt8).toArray⟩, .string ⟨([60] : List UInt8).toArray⟩, .string ⟨([62] : List UInt8).toArray⟩, .string ⟨([61] : List UInt8).toArray⟩, .string ⟨([63] : List UInt8).toArray⟩, .string ⟨([58] : List UInt8).toArray⟩, .string ⟨([59] : List UInt8).toArray⟩, .string ⟨([44] : List UInt8).toArray⟩, .string ⟨([46] : List UInt8).toArray⟩, .string ⟨([40] : List UInt8).toArray⟩, .string ⟨([41] : List UInt8).toArray⟩, .string ⟨([91] : List UInt8).toArray⟩, .string ⟨([93] : List UInt8).toArray⟩, .string ⟨([123] : List UInt8).toArray⟩, .string ⟨([125] : List UInt8).toArray⟩])) (wl rfl (alS (zs := [.string ⟨([] : List UInt8).toArray⟩, .string ⟨([] : List UInt8).toArray⟩, .string ⟨([] : List UInt8).toArray⟩, .string ⟨([] : List UInt8).toArray⟩, .string ⟨([] : List UInt8).toArray⟩, .string ⟨([] : List UInt8).toArray⟩, .string ⟨([] : List UInt8).toArray⟩, .string ⟨([] : List UInt8).toArray⟩, .string ⟨([] : List UInt8).toArray⟩, .string ⟨([] : List UInt8).toArray⟩, .string ⟨([] : List UInt8).toArray⟩, .string ⟨([] : List UInt8).toArray⟩, .string ⟨([] : List UInt8).toArray⟩, .string ⟨([] : List UInt8).toArray⟩, .string ⟨([] : List UInt8).toArray⟩, .string ⟨([] : List UInt8).toArray⟩, .string ⟨([] : List UInt8).toArray⟩, .string ⟨([] : List UInt8).toArray⟩, .string ⟨([] : List UInt8).toArray⟩, .string ⟨([] : List UInt8).toArray⟩, .string ⟨([] : List UInt8).toArray⟩, .string ⟨([] : List UInt8).toArray⟩, .string ⟨([] : List UInt8).toArray⟩, .string ⟨([] : List UInt8).toArray⟩, .string ⟨([] : List UInt8).toArray⟩, .string ⟨([] : List UInt8).toArray⟩, .string ⟨([] : List UInt8).toArray⟩, .string ⟨([] : List UInt8).toArray⟩, .string ⟨([] : List UInt8).toArray⟩, .string ⟨([] : List UInt8).toArray⟩, .string ⟨([] : List UInt8).toArray⟩, .string ⟨([] : List UInt8).toArray⟩, .string ⟨([] : List UInt8).toArray⟩, .string ⟨([] : List UInt8).toArray⟩, .string ⟨([] : List UInt8).toArray⟩, .string ⟨([] : List UInt8).toArray⟩, .string ⟨([] : List UInt8).toArray⟩, .string ⟨([] : List UInt8).toArray⟩, .string ⟨([] : List UInt8).toArray⟩, .string ⟨([] : List UInt8).toArray⟩, .string ⟨([] : List UInt8).toArray⟩, .string ⟨([] : List UInt8).toArray⟩, .string ⟨([] : List UInt8).toArray⟩, .string ⟨([] : List UInt8).toArray⟩, .string ⟨([] : List UInt8).toArray⟩]) zeroValue152 rfl hS fun w1 b1 im1 hS1 => ?_))))
  refine wl rfl (st0B (q := 0) hS1 ⟨rfl, rfl⟩ rfl rfl rfl sizeOf152 rfl rfl rfl fun w2 im2 hS2 => ?_)
  refine nil (t_then ?_)
  refine sq2 (sq2 (rg (pv (r_ldS rfl isAgg152 sizeOf152 rfl (hS2.cells0 (i := 0) ⟨rfl, rfl⟩ (o := 0) rfl) (cs := [.string ⟨([60, 60, 61] : List UInt8).toArray⟩, .string ⟨([62, 62, 61] : List UInt8).toArray⟩, .string ⟨([45, 62] : List UInt8).toArray⟩, .string ⟨([43, 43] : List UInt8).toArray⟩, .string ⟨([45, 45] : List UInt8).toArray⟩, .string ⟨([60, 60] : List UInt8).toArray⟩, .string ⟨([62, 62] : List UInt8).toArray⟩, .string ⟨([60, 61] : List UInt8).toArray⟩, .string ⟨([62, 61] : List UInt8).toArray⟩, .string ⟨([61, 61] : List UInt8).toArray⟩, .string ⟨([33, 61] : List UInt8).toArray⟩, .string ⟨([38, 38] : List UInt8).toArray⟩, .string ⟨([124, 124] : List UInt8).toArray⟩, .string ⟨([43, 61] : List UInt8).toArray⟩, .string ⟨([45, 61] : List UInt8).toArray⟩, .string ⟨([42, 61] : List UInt8).toArray⟩, .string ⟨([47, 61] : List UInt8).toArray⟩, .string ⟨([37, 61] : List UInt8).toArray⟩, .string ⟨([38, 61] : List UInt8).toArray⟩, .string ⟨([124, 61] : List UInt8).toArray⟩, .string ⟨([94, 61] : List UInt8).toArray⟩, .string ⟨([43] : List UInt8).toArray⟩, .string ⟨([45] : List UInt8).toArray⟩, .string ⟨([42] : List UInt8).toArray⟩, .string ⟨([47] : List UInt8).toArray⟩, .string ⟨([37] : List UInt8).toArray⟩, .string ⟨([38] : List UInt8).toArray⟩, .string ⟨([124] : List UInt8).toArray⟩, .string ⟨([94] : List UInt8).toArray⟩, .string ⟨([126] : List UInt8).toArray⟩, .string ⟨([33] : List UInt8).toArray⟩, .string ⟨([60] : List UInt8).toArray⟩, .string ⟨([62] : List UInt8).toArray⟩, .string ⟨([61] : List UInt8).toArray⟩, .string ⟨([63] : List UInt8).toArray⟩, .string ⟨([58] : List UInt8).toArray⟩, .string ⟨([59] : List UInt8).toArray⟩, .string ⟨([44] : List UInt8).toArray⟩, .string ⟨([46] : List UInt8).toArray⟩, .string ⟨([40] : List UInt8).toArray⟩, .string ⟨([41] : List UInt8).toArray⟩, .string ⟨([91] : List UInt8).toArray⟩, .string ⟨([93] : List UInt8).toArray⟩, .string ⟨([123] : List UInt8).toArray⟩, .string ⟨([125] : List UInt8).toArray⟩])) (pv (r_mi rfl) (nil (t_then ?_))))))
  obtain ⟨o1, ho1, hq1⟩ := bindS hm
  obtain ⟨bd1, hbd1, ho1⟩ := loop_open ho1
  refine blk (wp_loop_ghost (fun m a w3 => ∃ (J : JV) (T1 : TP) (x1 : Int), a = env (nf 16) J [(0, .string ⟨p0.toArray⟩), (7, .agg #[.string ⟨([60, 60, 61] : List UInt8).toArray⟩, .string ⟨([62, 62, 61] : List UInt8).toArray⟩, .string ⟨([45, 62] : List UInt8).toArray⟩, .string ⟨([43, 43] : List UInt8).toArray⟩, .string ⟨([45, 45] : List UInt8).toArray⟩, .string ⟨([60, 60] : List UInt8).toArray⟩, .string ⟨([62, 62] : List UInt8).toArray⟩, .string ⟨([60, 61] : List UInt8).toArray⟩, .string ⟨([62, 61] : List UInt8).toArray⟩, .string ⟨([61, 61] : List UInt8).toArray⟩, .string ⟨([33, 61] : List UInt8).toArray⟩, .string ⟨([38, 38] : List UInt8).toArray⟩, .string ⟨([124, 124] : List UInt8).toArray⟩, .string ⟨([43, 61] : List UInt8).toArray⟩, .string ⟨([45, 61] : List UInt8).toArray⟩, .string ⟨([42, 61] : List UInt8).toArray⟩, .string ⟨([47, 61] : List UInt8).toArray⟩, .string ⟨([37, 61] : List UInt8).toArray⟩, .string ⟨([38, 61] : List UInt8).toArray⟩, .string ⟨([124, 61] : List UInt8).toArray⟩, .string ⟨([94, 61] : List UInt8).toArray⟩, .string ⟨([43] : List UInt8).toArray⟩, .string ⟨([45] : List UInt8).toArray⟩, .string ⟨([42] : List UInt8).toArray⟩, .string ⟨([47] : List UInt8).toArray⟩, .string ⟨([37] : List UInt8).toArray⟩, .string ⟨([38] : List UInt8).toArray⟩, .string ⟨([124] : List UInt8).toArray⟩, .string ⟨([94] : List UInt8).toArray⟩, .string ⟨([126] : List UInt8).toArray⟩, .string ⟨([33] : List UInt8).toArray⟩, .string ⟨([60] : List UInt8).toArray⟩, .string ⟨([62] : List UInt8).toArray⟩, .string ⟨([61] : List UInt8).toArray⟩, .string ⟨([63] : List UInt8).toArray⟩, .string ⟨([58] : List UInt8).toArray⟩, .string ⟨([59] : List UInt8).toArray⟩, .string ⟨([44] : List UInt8).toArray⟩, .string ⟨([46] : List UInt8).toArray⟩, .string ⟨([40] : List UInt8).toArray⟩, .string ⟨([41] : List UInt8).toArray⟩, .string ⟨([91] : List UInt8).toArray⟩, .string ⟨([93] : List UInt8).toArray⟩, .string ⟨([123] : List UInt8).toArray⟩, .string ⟨([125] : List UInt8).toArray⟩]), (8, iv x1)] ∧ Im T0 w2 T1 w3 ∧ Sep g T1 w3 [R] ∧ loopM bd1 m x1 = some o1) NN ⟨_, _, 0, env_has ⟨rfl, rfl, rfl, trivial⟩, Im.refl, hS2.sel [1] rfl, ho1⟩ ?_)
  rintro m _ w3 ⟨J, T1, x1, rfl, im3, hS3, ho1⟩
  obtain ⟨m1, z1, rfl, hm, hn1⟩ := loop_round ho1
  rw [hbd1] at hm
  refine sq2 (rg (pv (r_ib rfl rfl rfl) (nil (t_then ?_))))
  refine sq2 (cnd rfl (fun hb1 => ?_) (fun hb1 => ?_))
  · have hm := ctrue hb1 hm
    refine skp (t_then ?_)
    refine sq2 (blk (sq2 ?_))
    obtain ⟨u1, hx1, hm⟩ := bindS hm
    refine rg (pv (r_axi rfl rfl (idx_map (fun z : List UInt8 => Value.string ⟨z.toArray⟩) hx1) rfl underlying152 sizeOf9 isAgg9) (pv (r_zt rfl) (nil (t_then ?_))))
    refine sq2 ?_
    obtain ⟨y1, hx2, hm⟩ := bindS hm
    refine rg (pv (r_mt rfl) (pv (r_mt rfl) (wl rfl (calS cf21 rfl (strings_HasPrefix_sim (p0 := p0) (p1 := u1) (hS3.bun [0] [] rfl)  hx2) rfl fun v1 T2 w4 im4 rv1 => ?_))))
    obtain ⟨rfl, hS4, _⟩ := rv1
    have hS4 := hS4.unb
    refine nil (t_then ?_)
    refine cnd rfl (fun hb2 => ?_) (fun hb2 => ?_)
    · have hm := ctrue hb2 hm
      refine sq2 (rg (pv (r_mt rfl) (pv (r_zt rfl) (nil (t_then ?_)))))
      have hm := oI hm; subst hm
      have hn1 : _ = Lp.ret _ := hn1
      subst hn1
      have hm := thn_ret hq1
      have hm := oI hm; subst hm
      exact rtn (r_blk (r_then (r_then (r_blk (r_then (ret1 rfl rfl ⟨_, rfl, _, (iT im1 (iT im2 (iT im3 im4))), ⟨rfl, hS4.sel [0] rfl, trivial⟩⟩))))))
    have hm := cfalse hb2 hm
    refine skp (t_blk (t_then ?_))
    have hm := oI hm; subst hm
    exact rg (pv (r_ib rfl rfl rfl) (pv (r_mi rfl) (nil (t_then ⟨m1, Nat.lt_succ_self _, _, _, (IntKind.wrap .i64 (x1 + 1)), env_has ⟨rfl, rfl, rfl, trivial⟩, (iT im3 im4), hS4.sel [0] rfl, hn1⟩))))
  have hm := cfalse hb1 hm
  have hm := oI hm; subst hm
  have hn1 : _ = Lp.brk _ := hn1
  subst hn1
  have hm := thn_brk hq1
  refine xt (x_then (x_then (x_eq (t_then ?_))))
  refine sq2 (rg (pv (r_zt rfl) (nil (t_then ?_))))
  have hm := oI hm; subst hm
  exact rtn (ret1 rfl rfl ⟨_, rfl, _, (iT im1 (iT im2 im3)), ⟨rfl, hS3.sel [0] rfl, trivial⟩⟩)

theorem lex_token_sim {p0 : List UInt8} {r : GToken × Int} (hS : Sep g T0 w0 [R])  (hm : lex_token p0 = some r) :
    Calls Tryz.prog 12 #[.string ⟨p0.toArray⟩] w0 (RetS T0 w0 fun T w v => v = .tuple #[.agg (cGToken r.1).toArray, iv r.2] ∧ Sep g T w [R] ∧ True) := by
  refine enter (args := [.string ⟨p0.toArray⟩]) Tryz.func12 rfl Tryz.ntmps12 rfl fun J => ?_
  unfold lex_token at hm
  refine sq2 (rg (wl rfl (alS (zs := [iv 0, .string ⟨([] : List UInt8).toArray⟩, .int .u32 0, iv 0, iv 0]) zeroValue66 rfl hS fun w1 b1 im1 hS1 => ?_)))
  refine pv (r_zi rfl) (nil (t_then ?_))
  refine sq2 (blk (sq2 ?_))
  obtain ⟨u1, hx1, hm⟩ := bindS hm
  obtain ⟨y1, hx2, hm⟩ := bindS hm
  refine rg (pv (r_mt rfl) (pv (r_sx rfl rfl hx1 underlying9) (wl rfl (calS cf25 rfl (lex_letter_sim (p0 := (UInt8.toNat u1 : Int)) (hS1.bun [0, 1] [] rfl)  hx2) rfl fun v1 T1 w2 im2 rv1 => ?_))))
  obtain ⟨rfl, hS2, _⟩ := rv1
  have hS2 := hS2.unb
  refine pv (r_zb rfl) (nil (t_then ?_))
  refine cnd rfl (fun hb1 => ?_) (fun hb1 => ?_)
  · have hm := ctrue hb1 hm
    refine sq2 ?_
    obtain ⟨y2, hx3, hm⟩ := bindS hm
    refine rg (pv (r_mt rfl) (wl rfl (calS cf23 rfl (lex_span_2_sim (p0 := p0) (hS2.bun [0, 1] [] rfl)  hx3) rfl fun v2 T2 w3 im3 rv2 => ?_)))
    obtain ⟨rfl, hS3, _⟩ := rv2
    have hS3 := hS3.unb
    refine pv (r_zi rfl) (nil (t_then ?_))
    refine sq2 ?_
    obtain ⟨u2, hx4, hm⟩ := bindS hm
    refine rg (pv (r_mt rfl) (pv (r_mi rfl) (pv (r_ss rfl rfl ⟨_, rfl⟩ hx4 underlying9) (pv (r_bd (by kernel_rfl) rfl (u := .agg #[iv 1, .string ⟨u2.toArray⟩, .int .u32 0, iv 0, iv 0])) (wl rfl (alS (zs := [iv 0, .string ⟨([] : List UInt8).toArray⟩, .int .u32 0, iv 0, iv 0]) zeroValue66 rfl hS3 fun w4 b2 im4 hS4 => ?_))))))
    refine wl rfl (st0B (q := 0) hS4 ⟨rfl, rfl⟩ rfl rfl rfl sizeOf66 rfl rfl rfl fun w5 im5 hS5 => ?_)
    refine nil (t_then ?_)
    refine sq2 (sq2 (rg (pv (r_mi rfl) (pv (r_ib rfl rfl rfl) (nil (t_then ?_))))))
    refine cnd rfl (fun hb2 => ?_) (fun hb2 => ?_)
    · have hm := ctrue hb2 hm
      refine sq2 (rg (pv (r_ldS rfl isAgg66 sizeOf66 rfl (hS5.cells0 (i := 0) ⟨rfl, rfl⟩ (o := 0) rfl) (cs := [iv 1, .string ⟨u2.toArray⟩, .int .u32 0, iv 0, iv 0])) (wl rfl (st0B (q := 1) hS5 ⟨rfl, rfl⟩ rfl rfl rfl sizeOf66 rfl rfl rfl fun w6 im6 hS6 => ?_))))
      refine pv (r_zi rfl) (nil (t_then ?_))
      have hm := oI hm; subst hm
      exact rtn (r_then (r_blk (r_then (retN (vs := [.agg #[iv 1, .string ⟨u2.toArray⟩, .int .u32 0, iv 0, iv 0], iv 2]) rfl ⟨rvS rfl isAgg66 sizeOf66 rfl (hS6.bx (i := 1) ⟨rfl, rfl⟩), rfl, trivial⟩ rfl ⟨_, rfl, _, (iT im1 (iT im2 (iT im3 (iT im4 (iT im5 im6))))), ⟨rfl, hS6.sel [2] rfl, trivial⟩⟩))))
    have hm := cfalse hb2 hm
    refine skp (t_then ?_)
    obtain ⟨kk1, hkk1, hm⟩ := jn_open hm
    refine cut (fun a w7 => ∃ (J : JV) (T3 : TP) (x1 : GToken), a = env (nf 48) J [(2, pt b1 0), (5, pt b2 0)] ∧ Im T2 w5 T3 w7 ∧ Sep g T3 w7 [boxA b2 (cGToken x1), boxA b1 [iv 0, .string ⟨([] : List UInt8).toArray⟩, .int .u32 0, iv 0, iv 0], R] ∧ kk1 x1 = some r) ?_ ?_
    · refine sq2 ?_
      obtain ⟨y3, hx5, hm⟩ := bindS hm
      refine rg (pv (r_fa rfl underlying66 rfl sizeOf9 rfl) (pv (r_ld rfl isAgg9 (hS5.cell0 (i := 0) ⟨rfl, rfl⟩ (j := 1) rfl)) (wl rfl (calS cf27 rfl (lex_Word_sim (p0 := u2) (hS5.bun [0, 1, 2] [] rfl)  hx5) rfl fun v3 T4 w8 im8 rv3 => ?_))))
      obtain ⟨rfl, hS7, _⟩ := rv3
      have hS7 := hS7.unb
      refine nil (t_then ?_)
      refine cnd rfl (fun hb3 => ?_) (fun hb3 => ?_)
      · have hm := ctrue hb3 hm
        refine rg (pv (r_fa rfl underlying66 rfl sizeOf3 rfl) (wl rfl (st0B (q := 0) hS7 ⟨rfl, rfl⟩ rfl rfl rfl sizeOf3 rfl rfl rfl fun w9 im9 hS8 => ?_)))
        exact nil (t_then ⟨_, _, (⟨2, u2, 0, (⟨0, 0⟩ : Pos)⟩ : GToken), env_has ⟨rfl, rfl, trivial⟩, (iT im8 im9), hS8.sel [0, 1, 2] rfl, hm⟩)
      have hm := cfalse hb3 hm
      exact skp (t_then ⟨_, _, (⟨1, u2, 0, (⟨0, 0⟩ : Pos)⟩ : GToken), env_has ⟨rfl, rfl, trivial⟩, im8, hS7.sel [0, 1, 2] rfl, hm⟩)
    rintro _ w7 ⟨J, T3, x1, rfl, im7, hS9, hm⟩
    rw [hkk1] at hm
    refine sq2 (rg (pv (r_ldS rfl isAgg66 sizeOf66 rfl (hS9.cells0 (i := 0) ⟨rfl, rfl⟩ (o := 0) rfl) (cs := (cGToken x1))) (wl rfl (st0B (q := 1) hS9 ⟨rfl, rfl⟩ rfl rfl rfl sizeOf66 rfl rfl rfl fun w10 im10 hS10 => ?_))))
    refine pv (r_zi rfl) (nil (t_then ?_))
    have hm := oI hm; subst hm
    exact rtn (r_blk (r_then (retN (vs := [.agg (cGToken x1).toArray, iv 0]) rfl ⟨rvS rfl isAgg66 sizeOf66 rfl (hS10.bx (i := 1) ⟨rfl, rfl⟩), rfl, trivial⟩ rfl ⟨_, rfl, _, (iT im1 (iT im2 (iT im3 (iT im4 (iT im5 (iT im7 im10)))))), ⟨rfl, hS10.sel [2] rfl, trivial⟩⟩)))
  have hm := cfalse hb1 hm
  refine sq2 ?_
  obtain ⟨u3, hx6, hm⟩ := bindS hm
  obtain ⟨y4, hx7, hm⟩ := bindS hm
  refine rg (pv (r_mt rfl) (pv (r_sx rfl rfl hx6 underlying9) (wl rfl (calS cf28 rfl (lex_digit_sim (p0 := (UInt8.toNat u3 : Int)) (hS2.bun [0, 1] [] rfl)  hx7) rfl fun v4 T5 w11 im11 rv4 => ?_))))
  obtain ⟨rfl, hS11, _⟩ := rv4
  have hS11 := hS11.unb
  refine pv (r_zb rfl) (nil (t_then ?_))
  refine cnd rfl (fun hb4 => ?_) (fun hb4 => ?_)
  · have hm := ctrue hb4 hm
    refine sq2 ?_
    obtain ⟨y5, hx8, hm⟩ := bindS hm
    refine rg (pv (r_mt rfl) (wl rfl (calS cf29 rfl (lex_number_sim (p0 := p0) (hS11.bun [0, 1] [] rfl)  hx8) rfl fun v5 T6 w12 im12 rv5 => ?_)))
    obtain ⟨rfl, hS12, _⟩ := rv5
    have hS12 := hS12.unb
    refine pv (r_ex (v := .agg (cGToken y5.1).toArray) rfl rfl) (pv (r_ex (v := iv y5.2) rfl rfl) (wl rfl (st0B (q := 0) hS12 ⟨rfl, rfl⟩ rfl rfl rfl sizeOf66 rfl rfl rfl fun w13 im13 hS13 => ?_)))
    refine pv (r_zi rfl) (nil (t_then ?_))
    have hm := oI hm; subst hm
    exact rtn (r_blk (r_then (retN (vs := [.agg (cGToken y5.1).toArray, iv y5.2]) rfl ⟨rvS rfl isAgg66 sizeOf66 rfl (hS13.bx (i := 0) ⟨rfl, rfl⟩), rfl, trivial⟩ rfl ⟨_, rfl, _, (iT im1 (iT im2 (iT im11 (iT im12 im13)))), ⟨rfl, hS13.sel [1] rfl, trivial⟩⟩)))
  have hm := cfalse hb4 hm
  refine sq2 ?_
  obtain ⟨u4, hx9, hm⟩ := bindS hm
  refine rg (pv (r_mt rfl) (pv (r_sx rfl rfl hx9 underlying9) (pv (r_ib rfl rfl rfl) (pv (r_zb rfl) (nil (t_then ?_))))))
  refine cnd rfl (fun hb5 => ?_) (fun hb5 => ?_)
  · have hm := ctrue hb5 hm
    refine sq2 ?_
    obtain ⟨y6, hx10, hm⟩ := bindS hm
    refine rg (pv (r_mt rfl) (wl rfl (calS cf30 rfl (lex_char_sim (p0 := p0) (hS11.bun [0, 1] [] rfl)  hx10) rfl fun v6 T7 w14 im14 rv6 => ?_)))
    obtain ⟨rfl, hS14, _⟩ := rv6
    have hS14 := hS14.unb
    refine pv (r_ex (v := .agg (cGToken y6.1).toArray) rfl rfl) (pv (r_ex (v := iv y6.2) rfl rfl) (wl rfl (st0B (q := 0) hS14 ⟨rfl, rfl⟩ rfl rfl rfl sizeOf66 rfl rfl rfl fun w15 im15 hS15 => ?_)))
    refine pv (r_zi rfl) (nil (t_then ?_))
    have hm := oI hm; subst hm
    exact rtn (r_blk (r_then (retN (vs := [.agg (cGToken y6.1).toArray, iv y6.2]) rfl ⟨rvS rfl isAgg66 sizeOf66 rfl (hS15.bx (i := 0) ⟨rfl, rfl⟩), rfl, trivial⟩ rfl ⟨_, rfl, _, (iT im1 (iT im2 (iT im11 (iT im14 im15)))), ⟨rfl, hS15.sel [1] rfl, trivial⟩⟩)))
  have hm := cfalse hb5 hm
  refine skp (t_blk (t_then ?_))
  refine sq2 ?_
  obtain ⟨y7, hx11, hm⟩ := bindS hm
  refine rg (pv (r_mt rfl) (wl rfl (calS cf31 rfl (lex_mark_sim (p0 := p0) (hS11.bun [0, 1] [] rfl)  hx11) rfl fun v7 T8 w16 im16 rv7 => ?_)))
  obtain ⟨rfl, hS16, _⟩ := rv7
  have hS16 := hS16.unb
  refine pv (r_zt rfl) (nil (t_then ?_))
  refine sq2 (sq2 (rg (pv (r_mt rfl) (pv (r_sqL rfl rfl) (nil (t_then ?_))))))
  refine cnd rfl (fun hb6 => ?_) (fun hb6 => ?_)
  · have hm := ctrue hb6 hm
    refine sq2 (rg (pv (r_bd (by kernel_rfl) rfl (u := .agg #[iv 0, .string ⟨([] : List UInt8).toArray⟩, .int .u32 0, iv 0, iv 0])) (wl rfl (st0B (q := 0) hS16 ⟨rfl, rfl⟩ rfl rfl rfl sizeOf66 rfl rfl rfl fun w17 im17 hS17 => ?_))))
    refine pv (r_zi rfl) (nil (t_then ?_))
    have hm := oI hm; subst hm
    exact rtn (r_then (retN (vs := [.agg #[iv 0, .string ⟨([] : List UInt8).toArray⟩, .int .u32 0, iv 0, iv 0], iv 3]) rfl ⟨rvS rfl isAgg66 sizeOf66 rfl (hS17.bx (i := 0) ⟨rfl, rfl⟩), rfl, trivial⟩ rfl ⟨_, rfl, _, (iT im1 (iT im2 (iT im11 (iT im16 im17)))), ⟨rfl, hS17.sel [1] rfl, trivial⟩⟩))
  have hm := cfalse hb6 hm
  refine skp (t_then ?_)
  refine sq2 (rg (pv (r_mt rfl) (pv (r_bd (by kernel_rfl) rfl (u := .agg #[iv 4, .string ⟨y7.toArray⟩, .int .u32 0, iv 0, iv 0])) (wl rfl (st0B (q := 0) hS16 ⟨rfl, rfl⟩ rfl rfl rfl sizeOf66 rfl rfl rfl fun w18 im18 hS18 => ?_)))))
  refine pv (r_zi rfl) (nil (t_then ?_))
  have hm := oI hm; subst hm
  exact rtn (retN (vs := [.agg #[iv 4, .string ⟨y7.toArray⟩, .int .u32 0, iv 0, iv 0], iv 0]) rfl ⟨rvS rfl isAgg66 sizeOf66 rfl (hS18.bx (i := 0) ⟨rfl, rfl⟩), rfl, trivial⟩ rfl ⟨_, rfl, _, (iT im1 (iT im2 (iT im11 (iT im16 im18)))), ⟨rfl, hS18.sel [1] rfl, trivial⟩⟩)

theorem lex_Lex_sim {p0 : List UInt8} {r : (List GToken) × Pos × Int} (hS : Sep g T0 w0 [R]) (hG0 : Gi T0 w0 0) (hm : lex_Lex p0 = some r) :
    Calls Tryz.prog 6 #[.string ⟨p0.toArray⟩] w0 (RetS T0 w0 fun T w v => ∃ (a4 : OA) (n4 : Nat) (c4 : Nat), v = .tuple #[.slice a4 n4 c4, .agg #[iv r.2.1.Line, iv r.2.1.Col], iv r.2.2] ∧ Sep g T w [R, ownA rGToken 66 (.slice a4 n4 c4) r.1] ∧ True) := by
  refine enter (args := [.string ⟨p0.toArray⟩]) Tryz.func6 rfl Tryz.ntmps6 rfl fun J => ?_
  unfold lex_Lex at hm
  refine sq2 (rg (pv (r_zs rfl) (wl rfl (alS (zs := [iv 0, iv 0]) zeroValue28 rfl hS fun w1 b1 im1 hS1 => ?_))))
  refine pv (r_zi rfl) (nil (t_then ?_))
  refine sq2 (rg (pv (r_mt rfl) (pv (r_bd (by kernel_rfl) rfl (u := .agg #[iv 1, iv 1])) (pv (r_bd (by kernel_rfl) rfl (u := .agg #[.string ⟨p0.toArray⟩, iv 1, iv 1])) (wl rfl (bxS (cs := [.string ⟨p0.toArray⟩, iv 1, iv 1]) rfl rfl hS1 fun w2 b2 im2 hS2 => ?_))))))
  refine pv (r_zp rfl) (nil (t_then ?_))
  refine sq2 (sq2 (rg (pv (r_mt rfl) (pv (r_lnt rfl underlying9) (pv (r_ib rfl rfl rfl) (nil (t_then ?_)))))))
  refine cnd rfl (fun hb1 => ?_) (fun hb1 => ?_)
  · have hm := ctrue hb1 hm
    refine sq2 (rs [0, 0, 0, 1, 0, 2, 0] [0, 1, 2, 3, 4, 5, 6] mix (by kernel_rfl) hS2.lt fun w3 i1 => ?_)
    have im3 := i1.imm
    have hS3 := hS2.keep i1 (fun _ h => h)
    refine s0 rfl trivial (fun _ => r_mp rfl) rfl (s0 rfl trivial (fun _ => r_nc rfl) rfl (s0 rfl trivial (fun _ => r_fa rfl underlying62 rfl sizeOf28 rfl) rfl (s1 rfl trivial (r_ldS rfl isAgg28 sizeOf28 rfl (hS3.cells0 (i := 0) ⟨rfl, rfl⟩ (o := 1) rfl) (cs := [iv 1, iv 1])) rfl (s0 rfl trivial (fun _ => r_zs rfl) rfl (s2 [] rfl trivial rfl (by kernel_rfl) (st0B (q := 1) hS3 ⟨rfl, rfl⟩ rfl rfl rfl sizeOf28 rfl rfl rfl fun w4 im4 hS4 => ?_))))))
    refine ⟨st0, ?_⟩
    refine s0 rfl trivial (fun _ => r_zi rfl) rfl (se (t_then ?_))
    have hS5 := hS4.nilO rGToken 66
    have hm := oI hm; subst hm
    exact rtn (r_then (retN (vs := [.slice none 0 0, .agg #[iv 1, iv 1], iv 2]) rfl ⟨rfl, rvS rfl isAgg28 sizeOf28 rfl (hS5.bx (i := 2) ⟨rfl, rfl⟩), rfl, trivial⟩ rfl ⟨_, rfl, _, (iT im1 (iT im2 (iT im3 im4))), ⟨_, _, _, rfl, hS5.sel [3, 0] rfl, trivial⟩⟩))
  have hm := cfalse hb1 hm
  refine skp (t_then ?_)
  refine sq2 (rg (pv (r_zs rfl) (nil (t_then ?_))))
  refine sq2 ?_
  obtain ⟨o1, ho1, hq1⟩ := bindS hm
  obtain ⟨bd1, hbd1, ho1⟩ := loop_open ho1
  have hS6 := hS2.nilO rGToken 66
  refine blk (wp_loop_ghost (fun m a w5 => ∃ (J : JV) (T1 : TP) (x2 : LexScanner) (x1 : List GToken) (a1 : OA) (n1 : Nat) (c1 : Nat), a = env (nf 76) J [(3, pt b1 0), (5, pt b2 0), (6, .slice a1 n1 c1)] ∧ Im T0 w2 T1 w5 ∧ Sep g T1 w5 [ownA rGToken 66 (.slice a1 n1 c1) x1, boxA b2 (cLexScanner x2), boxA b1 [iv 0, iv 0], R] ∧ loopM bd1 m (x1, x2) = some o1) NN ⟨_, _, (⟨p0, (⟨1, 1⟩ : Pos)⟩ : LexScanner), [], _, _, _, env_has ⟨rfl, rfl, rfl, trivial⟩, Im.refl, hS6.sel [0, 1, 2, 3] rfl, ho1⟩ ?_)
  rintro m _ w5 ⟨J, T1, x2, x1, a1, n1, c1, rfl, im5, hS7, ho1⟩
  obtain ⟨m1, z1, rfl, hm, hn1⟩ := loop_round ho1
  rw [hbd1] at hm
  refine sq2 (sq2 (rg (pv (r_mp rfl) (pv (r_nc rfl) (pv (r_fa rfl underlying62 rfl sizeOf9 rfl) (pv (r_ld rfl isAgg9 (hS7.cell0 (i := 1) ⟨rfl, rfl⟩ (j := 0) rfl)) (pv (r_snL rfl rfl) (nil (t_then ?_)))))))))
  refine cnd rfl (fun hb2 => ?_) (fun hb2 => ?_)
  · have hm := ctrue hb2 hm
    refine skp (t_then ?_)
    refine blk (sq2 ?_)
    obtain ⟨y1, hx1, hm⟩ := bindS hm
    refine rg (pv (r_mp rfl) (pv (r_nc rfl) (pv (r_fa rfl underlying62 rfl sizeOf9 rfl) (pv (r_ld rfl isAgg9 (hS7.cell0 (i := 1) ⟨rfl, rfl⟩ (j := 0) rfl)) (wl rfl (calS cf10 rfl (lex_blank_sim (p0 := x2.s) (hS7.bun [0, 1, 2, 3] [] rfl) (hG0.mono (iT im1 (iT im2 im5))) hx1) rfl fun v1 T2 w6 im6 rv1 => ?_))))))
    obtain ⟨rfl, hS8, _⟩ := rv1
    have hS8 := hS8.unb
    refine pv (r_zi rfl) (nil (t_then ?_))
    refine sq2 (sq2 (rg (pv (r_mi rfl) (pv (r_ib rfl rfl rfl) (nil (t_then ?_))))))
    refine cnd rfl (fun hb3 => ?_) (fun hb3 => ?_)
    · have hm := ctrue hb3 hm
      refine sq2 (rs [0, 0, 0, 1, 0, 2, 0] [0, 1, 2, 3, 4, 5, 6] mix (by kernel_rfl) hS8.lt fun w7 i2 => ?_)
      have im7 := i2.imm
      have hS9 := hS8.keep i2 (fun _ h => h)
      refine s0 rfl trivial (fun _ => r_mp rfl) rfl (s0 rfl trivial (fun _ => r_nc rfl) rfl (s0 rfl trivial (fun _ => r_fa rfl underlying62 rfl sizeOf28 rfl) rfl (s1 rfl trivial (r_ldS rfl isAgg28 sizeOf28 rfl (hS9.cells0 (i := 1) ⟨rfl, rfl⟩ (o := 1) rfl) (cs := [iv x2.pos.Line, iv x2.pos.Col])) rfl (s0 rfl trivial (fun _ => r_zs rfl) rfl (s2 [] rfl trivial rfl (by kernel_rfl) (st0B (q := 2) hS9 ⟨rfl, rfl⟩ rfl rfl rfl sizeOf28 rfl rfl rfl fun w8 im8 hS10 => ?_))))))
      refine ⟨st0, ?_⟩
      refine s0 rfl trivial (fun _ => r_zi rfl) rfl (se (t_then ?_))
      have hS11 := hS10.nilO rGToken 66
      have hm := oI hm; subst hm
      have hn1 : _ = Lp.ret _ := hn1
      subst hn1
      have hm := thn_ret hq1
      have hm := oI hm; subst hm
      exact rtn (r_then (r_blk (r_then (r_blk (r_then (retN (vs := [.slice none 0 0, .agg #[iv x2.pos.Line, iv x2.pos.Col], iv 3]) rfl ⟨rfl, rvS rfl isAgg28 sizeOf28 rfl (hS11.bx (i := 3) ⟨rfl, rfl⟩), rfl, trivial⟩ rfl ⟨_, rfl, _, (iT im1 (iT im2 (iT im5 (iT im6 (iT im7 im8))))), ⟨_, _, _, rfl, hS11.sel [4, 0] rfl, trivial⟩⟩))))))
    have hm := cfalse hb3 hm
    refine skp (t_then ?_)
    refine sq2 (sq2 (rg (pv (r_mi rfl) (pv (r_ib rfl rfl rfl) (nil (t_then ?_))))))
    refine cnd rfl (fun hb4 => ?_) (fun hb4 => ?_)
    · have hm := ctrue hb4 hm
      refine sq2 ?_
      obtain ⟨y2, hx2, hm⟩ := bindS hm
      refine rg (pv (r_mp rfl) (pv (r_mi rfl) (wl rfl (calS cf11 rfl (lex_scanner_skip_sim (p0 := x2) (H_p0 := boxA b2) (p1 := y1) (hS8.bun [0, 2, 3] [1] rfl) (lnBox b2) hx2) rfl fun v2 T3 w9 im9 rv2 => ?_))))
      obtain ⟨rfl, hS12, _⟩ := rv2
      have hS12 := hS12.unb
      refine nil (t_then ?_)
      have hm := oI hm; subst hm
      exact xt (x_then (x_eq (t_then ⟨m1, Nat.lt_succ_self _, _, _, y2, x1, _, _, _, env_has ⟨rfl, rfl, rfl, trivial⟩, (iT im5 (iT im6 im9)), hS12.sel [0, 3, 1, 2] rfl, hn1⟩)))
    have hm := cfalse hb4 hm
    refine skp (t_then ?_)
    refine sq2 ?_
    obtain ⟨y3, hx3, hm⟩ := bindS hm
    refine rg (pv (r_mp rfl) (pv (r_nc rfl) (pv (r_fa rfl underlying62 rfl sizeOf9 rfl) (pv (r_ld rfl isAgg9 (hS8.cell0 (i := 1) ⟨rfl, rfl⟩ (j := 0) rfl)) (wl rfl (calS cf12 rfl (lex_token_sim (p0 := x2.s) (hS8.bun [0, 1, 2, 3] [] rfl)  hx3) rfl fun v3 T4 w10 im10 rv3 => ?_))))))
    obtain ⟨rfl, hS13, _⟩ := rv3
    have hS13 := hS13.unb
    refine pv (r_mv rfl) (pv (r_ex (v := .agg (cGToken y3.1).toArray) rfl rfl) (pv (r_ex (v := iv y3.2) rfl rfl) (wl rfl (alS (zs := [iv 0, .string ⟨([] : List UInt8).toArray⟩, .int .u32 0, iv 0, iv 0]) zeroValue66 rfl hS13 fun w11 b3 im11 hS14 => ?_))))
    refine wl rfl (st0B (q := 0) hS14 ⟨rfl, rfl⟩ rfl rfl rfl sizeOf66 rfl rfl rfl fun w12 im12 hS15 => ?_)
    refine pv (r_zi rfl) (nil (t_then ?_))
    refine sq2 (sq2 (rg (pv (r_mi rfl) (pv (r_ib rfl rfl rfl) (nil (t_then ?_))))))
    refine cnd rfl (fun hb5 => ?_) (fun hb5 => ?_)
    · have hm := ctrue hb5 hm
      refine sq2 (rs [0, 0, 0, 1, 0, 0, 2, 0] [0, 1, 2, 3, 4, 5, 6, 7] mix (by kernel_rfl) hS15.lt fun w13 i3 => ?_)
      have im13 := i3.imm
      have hS16 := hS15.keep i3 (fun _ h => h)
      refine s0 rfl trivial (fun _ => r_mp rfl) rfl (s0 rfl trivial (fun _ => r_nc rfl) rfl (s0 rfl trivial (fun _ => r_fa rfl underlying62 rfl sizeOf28 rfl) rfl (s1 rfl trivial (r_ldS rfl isAgg28 sizeOf28 rfl (hS16.cells0 (i := 2) ⟨rfl, rfl⟩ (o := 1) rfl) (cs := [iv x2.pos.Line, iv x2.pos.Col])) rfl (s0 rfl trivial (fun _ => r_mi rfl) rfl (s0 rfl trivial (fun _ => r_zs rfl) rfl (s2 [] rfl trivial rfl (by kernel_rfl) (st0B (q := 3) hS16 ⟨rfl, rfl⟩ rfl rfl rfl sizeOf28 rfl rfl rfl fun w14 im14 hS17 => ?_)))))))
      refine ⟨st0, ?_⟩
      refine s0 rfl trivial (fun _ => r_zi rfl) rfl (se (t_thenR [(2, .slice none 0 0), (3, pt b1 0), (4, iv y3.2)] ⟨rfl, rfl, rfl, trivial⟩ fun J => ?_))
      have hS18 := hS17.nilO rGToken 66
      have hm := oI hm; subst hm
      have hn1 : _ = Lp.ret _ := hn1
      subst hn1
      have hm := thn_ret hq1
      have hm := oI hm; subst hm
      exact rtn (r_then (r_blk (r_then (r_blk (r_then (retN (vs := [.slice none 0 0, .agg #[iv x2.pos.Line, iv x2.pos.Col], iv y3.2]) rfl ⟨rfl, rvS rfl isAgg28 sizeOf28 rfl (hS18.bx (i := 4) ⟨rfl, rfl⟩), rfl, trivial⟩ rfl ⟨_, rfl, _, (iT im1 (iT im2 (iT im5 (iT im6 (iT im10 (iT im11 (iT im12 (iT im13 im14)))))))), ⟨_, _, _, rfl, hS18.sel [5, 0] rfl, trivial⟩⟩))))))
    have hm := cfalse hb5 hm
    refine skp (t_thenR [(3, pt b1 0), (5, pt b2 0), (6, .slice a1 n1 c1), (8, pt b3 0)] ⟨rfl, rfl, rfl, rfl, trivial⟩ fun J => ?_)
    refine sq2 (rg (pv (r_mp rfl) (pv (r_nc rfl) (pv (r_fa rfl underlying62 rfl sizeOf28 rfl) (pv (r_ldS rfl isAgg28 sizeOf28 rfl (hS15.cells0 (i := 2) ⟨rfl, rfl⟩ (o := 1) rfl) (cs := [iv x2.pos.Line, iv x2.pos.Col])) (pv (r_fa rfl underlying66 rfl sizeOf28 rfl) (wl rfl (st0B (q := 0) hS15 ⟨rfl, rfl⟩ rfl rfl rfl sizeOf28 rfl rfl rfl fun w15 im15 hS19 => ?_))))))))
    refine nil (t_then ?_)
    refine sq2 (rg (pv (r_ms rfl) (pv (r_ldS rfl isAgg66 sizeOf66 rfl (hS19.cells0 (i := 0) ⟨rfl, rfl⟩ (o := 0) rfl) (cs := [iv y3.1.Kind, .string ⟨y3.1.Text.toArray⟩, .int .u32 y3.1.Num, iv x2.pos.Line, iv x2.pos.Col])) (wl rfl (bsS (r := rGToken) (l := ([{ y3.1 with Pos := x2.pos }] : List GToken)) (css := [[iv y3.1.Kind, .string ⟨y3.1.Text.toArray⟩, .int .u32 y3.1.Num, iv x2.pos.Line, iv x2.pos.Col]]) hS19 underlying26 sizeOf66 zeroValue66 rfl rfl (by kernel_rfl) rfl ⟨(rGToken_mk (x := { y3.1 with Pos := x2.pos })  : rGToken.rp _ _ _ _), trivial⟩ rfl rfl fun w16 a2 n2 c2 im16 hS20 => ?_)))))
    obtain ⟨z_1, hro1, hm⟩ := bindS hm
    refine wl rfl (apO (q := 2) (l := x1) (us := ([{ y3.1 with Pos := x2.pos }] : List GToken)) hS20 ⟨rfl, rfl⟩ rfl rfl (hS20.own (i := 0) ⟨rfl, rfl⟩).v underlying26 el66 (room_some hro1) fun w17 a3 n3 c3 im17 hS21 => ?_)
    refine pv (r_zs rfl) (nil (t_then ?_))
    obtain ⟨y4, hx4, hm⟩ := bindS hm
    refine rg (pv (r_mp rfl) (pv (r_fa rfl underlying66 rfl sizeOf9 rfl) (pv (r_ld rfl isAgg9 (hS21.cell0 (i := 1) ⟨rfl, rfl⟩ (j := 1) rfl)) (pv (r_lnt rfl underlying9) (wl rfl (calS cf11 rfl (lex_scanner_skip_sim (p0 := x2) (H_p0 := boxA b2) (p1 := (List.length y3.1.Text : Int)) (hS21.bun [2, 4, 5] [3] rfl) (lnBox b2) hx4) rfl fun v4 T5 w18 im18 rv4 => ?_))))))
    obtain ⟨rfl, hS22, _⟩ := rv4
    have hS22 := hS22.unb
    have hm := oI hm; subst hm
    exact nil (t_blk (t_then ⟨m1, Nat.lt_succ_self _, _, _, y4, (x1 ++ ([{ y3.1 with Pos := x2.pos }] : List GToken)), _, _, _, env_has ⟨rfl, rfl, rfl, trivial⟩, (iT im5 (iT im6 (iT im10 (iT im11 (iT im12 (iT im15 (iT im16 (iT im17 im18)))))))), hS22.sel [0, 3, 1, 2] rfl, hn1⟩))
  have hm := cfalse hb2 hm
  have hm := oI hm; subst hm
  have hn1 : _ = Lp.brk _ := hn1
  subst hn1
  have hm := thn_brk hq1
  refine xt (x_then (x_then (x_eq (t_then ?_))))
  refine sq2 (rs [0, 0, 0, 0, 1, 0, 2, 0] [0, 1, 2, 3, 4, 5, 6, 7] mix (by kernel_rfl) hS7.lt fun w19 i4 => ?_)
  have im19 := i4.imm
  have hS23 := hS7.keep i4 (fun _ h => h)
  refine s0 rfl trivial (fun _ => r_ms rfl) rfl (s0 rfl trivial (fun _ => r_mp rfl) rfl (s0 rfl trivial (fun _ => r_nc rfl) rfl (s0 rfl trivial (fun _ => r_fa rfl underlying62 rfl sizeOf28 rfl) rfl (s1 rfl trivial (r_ldS rfl isAgg28 sizeOf28 rfl (hS23.cells0 (i := 1) ⟨rfl, rfl⟩ (o := 1) rfl) (cs := [iv x2.pos.Line, iv x2.pos.Col])) rfl (s0 rfl trivial (fun _ => r_zs rfl) rfl (s2 [] rfl trivial rfl (by kernel_rfl) (st0B (q := 2) hS23 ⟨rfl, rfl⟩ rfl rfl rfl sizeOf28 rfl rfl rfl fun w20 im20 hS24 => ?_)))))))
  refine ⟨st0, ?_⟩
  refine s0 rfl trivial (fun _ => r_zi rfl) rfl (se (t_then ?_))
  have hm := oI hm; subst hm
  exact rtn (retN (vs := [.slice a1 n1 c1, .agg #[iv x2.pos.Line, iv x2.pos.Col], iv 0]) rfl ⟨rfl, rvS rfl isAgg28 sizeOf28 rfl (hS24.bx (i := 2) ⟨rfl, rfl⟩), rfl, trivial⟩ rfl ⟨_, rfl, _, (iT im1 (iT im2 (iT im5 (iT im19 im20)))), ⟨_, _, _, rfl, hS24.sel [3, 0] rfl, trivial⟩⟩)

theorem ref07_is_sim {p0 : List UInt8} {p1 : Int} {p2 : List UInt8} {r : Bool} (hS : Sep g T0 w0 [R])  (hm : ref07_is p0 p1 p2 = some r) :
    Calls Tryz.prog 32 #[.string ⟨p0.toArray⟩, iv p1, .string ⟨p2.toArray⟩] w0 (RetS T0 w0 fun T w v => v = .bool r ∧ Sep g T w [R] ∧ True) := by
  refine enter (args := [.string ⟨p0.toArray⟩, iv p1, .string ⟨p2.toArray⟩]) Tryz.func32 rfl Tryz.ntmps32 rfl fun J => ?_
  unfold ref07_is at hm
  refine sq2 (rg (pv (r_zb rfl) (nil (t_then ?_))))
  refine sq2 (rg (pv (r_mi rfl) (pv (r_mt rfl) (pv (r_lnt rfl underlying9) (pv (r_ib rfl rfl rfl) (pv (r_mt rfl) (pv (r_lnt rfl underlying9) (pv (r_ib rfl rfl rfl) (pv (r_mb rfl) (?_))))))))))
  rcases Bool.eq_false_or_eq_true (decide ((IntKind.wrap .i64 (p1 + (List.length p2 : Int))) ≤ (List.length p0 : Int))) with hb1 | hb1
  · have hm := ctrue hb1 hm
    obtain ⟨u1, hx1, hm⟩ := bindS hm
    refine gT (d0 := 14) rfl rfl hb1 (pv (r_mt rfl) (gT (d0 := 14) rfl rfl hb1 (pv (r_mi rfl) (gT (d0 := 14) rfl rfl hb1 (pv (r_mi rfl) (gT (d0 := 14) rfl rfl hb1 (pv (r_mt rfl) (gT (d0 := 14) rfl rfl hb1 (pv (r_lnt rfl underlying9) (gT (d0 := 14) rfl rfl hb1 (pv (r_ib rfl rfl rfl) (gT (d0 := 14) rfl rfl hb1 (pv (r_ss rfl ⟨_, rfl⟩ ⟨_, rfl⟩ hx1 underlying9) (gT (d0 := 14) rfl rfl hb1 (pv (r_mt rfl) (gT (d0 := 14) rfl rfl hb1 (pv (r_sqL rfl rfl) (pv (r_pkt rfl hb1 rfl) (pv (r_zb rfl) (nil (t_then ?_)))))))))))))))))))))
    have hm := oI hm; subst hm
    exact rtn (ret1 rfl rfl ⟨_, rfl, _, Im.refl, ⟨rfl, hS.sel [0] rfl, trivial⟩⟩)
  have hm := cfalse hb1 hm
  refine gF (d0 := 14) rfl rfl (by rw [hb1]; rfl) (gF (d0 := 14) rfl rfl (by rw [hb1]; rfl) (gF (d0 := 14) rfl rfl (by rw [hb1]; rfl) (gF (d0 := 14) rfl rfl (by rw [hb1]; rfl) (gF (d0 := 14) rfl rfl (by rw [hb1]; rfl) (gF (d0 := 14) rfl rfl (by rw [hb1]; rfl) (gF (d0 := 14) rfl rfl (by rw [hb1]; rfl) (gF (d0 := 14) rfl rfl (by rw [hb1]; rfl) (gF (d0 := 14) rfl rfl (by rw [hb1]; rfl) (pv (r_pkf rfl hb1 rfl) (pv (r_zb rfl) (nil (t_then ?_))))))))))))
  have hm := oI hm; subst hm
  exact rtn (ret1 rfl rfl ⟨_, rfl, _, Im.refl, ⟨rfl, hS.sel [0] rfl, trivial⟩⟩)

theorem ref07_Blank_sim {p0 : List UInt8} {p1 : Int} {r : Int} (hS : Sep g T0 w0 [R])  (hm : ref07_Blank p0 p1 = some r) :
    Calls Tryz.prog 13 #[.string ⟨p0.toArray⟩, iv p1] w0 (RetS T0 w0 fun T w v => v = iv r ∧ Sep g T w [R] ∧ True) := by
  refine enter (args := [.string ⟨p0.toArray⟩, iv p1]) Tryz.func13 rfl Tryz.ntmps13 rfl fun J => ?_
  unfold ref07_Blank at hm
  refine sq2 (rg (pv (r_zi rfl) (nil (t_then ?_))))
  refine sq2 ?_
  obtain ⟨u1, hx1, hm⟩ := bindS hm
  refine rg (pv (r_mt rfl) (pv (r_mi rfl) (pv (r_sx rfl rfl hx1 underlying9) (pv (r_zi rfl) (nil (t_then ?_))))))
  refine sq2 (sq2 (rg (pv (r_mi rfl) (pv (r_ib rfl rfl rfl) (pv (r_mb rfl) (?_))))))
  rcases Bool.eq_false_or_eq_true ((UInt8.toNat u1 : Int) == 9) with hb1 | hb1
  · have hm := ctrue hb1 hm
    refine gF (d0 := 13) rfl rfl (by rw [hb1]; rfl) (gF (d0 := 13) rfl rfl (by rw [hb1]; rfl) (pv (r_pkt rfl hb1 rfl) (pv (r_mb rfl) (gF (d0 := 17) rfl rfl rfl (gF (d0 := 17) rfl rfl rfl (pv (r_pkt rfl rfl rfl) (pv (r_mb rfl) (gF (d0 := 21) rfl rfl rfl (gF (d0 := 21) rfl rfl rfl (pv (r_pkt rfl rfl rfl) (nil (t_then ?_))))))))))))
    refine cnd (b := true) rfl (fun _ => ?_) (fun h => nomatch h)
    refine sq2 (rg (pv (r_zi rfl) (nil (t_then ?_))))
    have hm := oI hm; subst hm
    exact rtn (r_then (ret1 rfl rfl ⟨_, rfl, _, Im.refl, ⟨rfl, hS.sel [0] rfl, trivial⟩⟩))
  have hm := cfalse hb1 hm
  refine gT (d0 := 13) rfl rfl hb1 (pv (r_mi rfl) (gT (d0 := 13) rfl rfl hb1 (pv (r_ib rfl rfl rfl) (pv (r_pkf rfl hb1 rfl) (pv (r_mb rfl) (?_))))))
  rcases Bool.eq_false_or_eq_true ((UInt8.toNat u1 : Int) == 10) with hb2 | hb2
  · have hm := ctrue hb2 hm
    refine gF (d0 := 17) rfl rfl (by rw [hb2]; rfl) (gF (d0 := 17) rfl rfl (by rw [hb2]; rfl) (pv (r_pkt rfl hb2 rfl) (pv (r_mb rfl) (gF (d0 := 21) rfl rfl rfl (gF (d0 := 21) rfl rfl rfl (pv (r_pkt rfl rfl rfl) (nil (t_then ?_))))))))
    refine cnd (b := true) rfl (fun _ => ?_) (fun h => nomatch h)
    refine sq2 (rg (pv (r_zi rfl) (nil (t_then ?_))))
    have hm := oI hm; subst hm
    exact rtn (r_then (ret1 rfl rfl ⟨_, rfl, _, Im.refl, ⟨rfl, hS.sel [0] rfl, trivial⟩⟩))
  have hm := cfalse hb2 hm
  refine gT (d0 := 17) rfl rfl hb2 (pv (r_mi rfl) (gT (d0 := 17) rfl rfl hb2 (pv (r_ib rfl rfl rfl) (pv (r_pkf rfl hb2 rfl) (pv (r_mb rfl) (?_))))))
  rcases Bool.eq_false_or_eq_true ((UInt8.toNat u1 : Int) == 13) with hb3 | hb3
  · have hm := ctrue hb3 hm
    refine gF (d0 := 21) rfl rfl (by rw [hb3]; rfl) (gF (d0 := 21) rfl rfl (by rw [hb3]; rfl) (pv (r_pkt rfl hb3 rfl) (nil (t_then ?_))))
    refine cnd (b := true) rfl (fun _ => ?_) (fun h => nomatch h)
    refine sq2 (rg (pv (r_zi rfl) (nil (t_then ?_))))
    have hm := oI hm; subst hm
    exact rtn (r_then (ret1 rfl rfl ⟨_, rfl, _, Im.refl, ⟨rfl, hS.sel [0] rfl, trivial⟩⟩))
  have hm := cfalse hb3 hm
  refine gT (d0 := 21) rfl rfl hb3 (pv (r_mi rfl) (gT (d0 := 21) rfl rfl hb3 (pv (r_ib rfl rfl rfl) (pv (r_pkf rfl hb3 rfl) (nil (t_then ?_))))))
  refine cnd rfl (fun hb4 => ?_) (fun hb4 => ?_)
  · have hm := ctrue hb4 hm
    refine sq2 (rg (pv (r_zi rfl) (nil (t_then ?_))))
    have hm := oI hm; subst hm
    exact rtn (r_then (ret1 rfl rfl ⟨_, rfl, _, Im.refl, ⟨rfl, hS.sel [0] rfl, trivial⟩⟩))
  have hm := cfalse hb4 hm
  refine skp (t_then ?_)
  refine sq2 (sq2 ?_)
  obtain ⟨y1, hx2, hm⟩ := bindS hm
  refine rg (pv (r_mt rfl) (pv (r_mi rfl) (wl rfl (calS cf32 rfl (ref07_is_sim (p0 := p0) (p1 := p1) (p2 := ([47, 47] : List UInt8)) (hS.bun [0] [] rfl)  hx2) rfl fun v1 T1 w1 im1 rv1 => ?_))))
  obtain ⟨rfl, hS1, _⟩ := rv1
  have hS1 := hS1.unb
  refine nil (t_then ?_)
  refine cnd rfl (fun hb5 => ?_) (fun hb5 => ?_)
  · have hm := ctrue hb5 hm
    refine sq2 (rg (pv (r_zi rfl) (nil (t_then ?_))))
    refine sq2 ?_
    obtain ⟨o1, ho1, hq1⟩ := bindS hm
    obtain ⟨bd1, hbd1, ho1⟩ := loop_open ho1
    refine blk (wp_loop_ghost (fun m a w2 => ∃ (J : JV) (T2 : TP) (x1 : Int), a = env (nf 63) J [(0, .string ⟨p0.toArray⟩), (1, iv p1), (6, iv x1)] ∧ Im T1 w1 T2 w2 ∧ Sep g T2 w2 [R] ∧ loopM bd1 m x1 = some o1) NN ⟨_, _, 2, env_has ⟨rfl, rfl, rfl, trivial⟩, Im.refl, hS1.sel [0] rfl, ho1⟩ ?_)
    rintro m _ w2 ⟨J, T2, x1, rfl, im2, hS2, ho1⟩
    obtain ⟨m1, z1, rfl, hm, hn1⟩ := loop_round ho1
    rw [hbd1] at hm
    refine sq2 (sq2 (rg (pv (r_mi rfl) (pv (r_mi rfl) (pv (r_ib rfl rfl rfl) (pv (r_mt rfl) (pv (r_lnt rfl underlying9) (pv (r_ib rfl rfl rfl) (pv (r_mb rfl) (?_))))))))))
    rcases Bool.eq_false_or_eq_true (decide ((IntKind.wrap .i64 (p1 + x1)) < (List.length p0 : Int))) with hb6 | hb6
    · have hm := ctrue hb6 hm
      obtain ⟨u2, hx3, hm⟩ := bindS hm
      refine gT (d0 := 34) rfl rfl hb6 (pv (r_mt rfl) (gT (d0 := 34) rfl rfl hb6 (pv (r_mi rfl) (gT (d0 := 34) rfl rfl hb6 (pv (r_mi rfl) (gT (d0 := 34) rfl rfl hb6 (pv (r_ib rfl rfl rfl) (gT (d0 := 34) rfl rfl hb6 (pv (r_sx rfl rfl hx3 underlying9) (gT (d0 := 34) rfl rfl hb6 (pv (r_ib rfl rfl rfl) (pv (r_pkt rfl hb6 rfl) (nil (t_then ?_))))))))))))))
      refine cnd rfl (fun hb7 => ?_) (fun hb7 => ?_)
      · have hm := ctrue hb7 hm
        refine skp (t_then ?_)
        refine blk ?_
        have hm := oI hm; subst hm
        exact rg (pv (r_mi rfl) (pv (r_ib rfl rfl rfl) (pv (r_zi rfl) (nil (t_blk (t_then ⟨m1, Nat.lt_succ_self _, _, _, (IntKind.wrap .i64 (x1 + 1)), env_has ⟨rfl, rfl, rfl, trivial⟩, im2, hS2.sel [0] rfl, hn1⟩))))))
      have hm := cfalse hb7 hm
      have hm := oI hm; subst hm
      have hn1 : _ = Lp.brk _ := hn1
      subst hn1
      have hm := thn_brk hq1
      refine xt (x_then (x_then (x_eq (t_then ?_))))
      refine sq2 (rg (pv (r_mi rfl) (pv (r_zi rfl) (nil (t_then ?_)))))
      have hm := oI hm; subst hm
      exact rtn (r_then (ret1 rfl rfl ⟨_, rfl, _, (iT im1 im2), ⟨rfl, hS2.sel [0] rfl, trivial⟩⟩))
    have hm := cfalse hb6 hm
    refine gF (d0 := 34) rfl rfl (by rw [hb6]; rfl) (gF (d0 := 34) rfl rfl (by rw [hb6]; rfl) (gF (d0 := 34) rfl rfl (by rw [hb6]; rfl) (gF (d0 := 34) rfl rfl (by rw [hb6]; rfl) (gF (d0 := 34) rfl rfl (by rw [hb6]; rfl) (gF (d0 := 34) rfl rfl (by rw [hb6]; rfl) (pv (r_pkf rfl hb6 rfl) (nil (t_then ?_))))))))
    refine cnd (b := false) rfl (fun h => nomatch h) (fun _ => ?_)
    have hm := oI hm; subst hm
    have hn1 : _ = Lp.brk _ := hn1
    subst hn1
    have hm := thn_brk hq1
    refine xt (x_then (x_then (x_eq (t_then ?_))))
    refine sq2 (rg (pv (r_mi rfl) (pv (r_zi rfl) (nil (t_then ?_)))))
    have hm := oI hm; subst hm
    exact rtn (r_then (ret1 rfl rfl ⟨_, rfl, _, (iT im1 im2), ⟨rfl, hS2.sel [0] rfl, trivial⟩⟩))
  have hm := cfalse hb5 hm
  refine skp (t_then ?_)
  refine sq2 (sq2 ?_)
  obtain ⟨y2, hx4, hm⟩ := bindS hm
  refine rg (pv (r_mt rfl) (pv (r_mi rfl) (wl rfl (calS cf32 rfl (ref07_is_sim (p0 := p0) (p1 := p1) (p2 := ([47, 42] : List UInt8)) (hS1.bun [0] [] rfl)  hx4) rfl fun v2 T3 w3 im3 rv2 => ?_))))
  obtain ⟨rfl, hS3, _⟩ := rv2
  have hS3 := hS3.unb
  refine nil (t_then ?_)
  refine cnd rfl (fun hb9 => ?_) (fun hb9 => ?_)
  · have hm := ctrue hb9 hm
    refine sq2 (sq2 (rg (pv (r_mi rfl) (pv (r_ib rfl rfl rfl) (pv (r_zi rfl) (nil (t_thenR [(0, .string ⟨p0.toArray⟩), (1, iv p1), (7, iv (IntKind.wrap .i64 (p1 + 2)))] ⟨rfl, rfl, rfl, trivial⟩ fun J => ?_)))))))
    obtain ⟨o1, ho1, hq1⟩ := bindS hm
    obtain ⟨bd1, hbd1, ho1⟩ := loop_open ho1
    refine blk (wp_loop_ghost (fun m a w4 => ∃ (J : JV) (T4 : TP) (x2 : Int), a = env (nf 63) J [(0, .string ⟨p0.toArray⟩), (1, iv p1), (7, iv x2)] ∧ Im T3 w3 T4 w4 ∧ Sep g T4 w4 [R] ∧ loopM bd1 m x2 = some o1) NN ⟨_, _, (IntKind.wrap .i64 (p1 + 2)), env_has ⟨rfl, rfl, rfl, trivial⟩, Im.refl, hS3.sel [0] rfl, ho1⟩ ?_)
    rintro m _ w4 ⟨J, T4, x2, rfl, im4, hS4, ho1⟩
    obtain ⟨m1, z1, rfl, hm, hn1⟩ := loop_round ho1
    rw [hbd1] at hm
    refine sq2 (sq2 (rg (pv (r_mi rfl) (pv (r_mt rfl) (pv (r_lnt rfl underlying9) (pv (r_ib rfl rfl rfl) (nil (t_then ?_))))))))
    refine cnd rfl (fun hb10 => ?_) (fun hb10 => ?_)
    · have hm := ctrue hb10 hm
      refine skp (t_then ?_)
      refine sq2 (blk (sq2 ?_))
      obtain ⟨y3, hx5, hm⟩ := bindS hm
      refine rg (pv (r_mt rfl) (pv (r_mi rfl) (wl rfl (calS cf32 rfl (ref07_is_sim (p0 := p0) (p1 := x2) (p2 := ([42, 47] : List UInt8)) (hS4.bun [0] [] rfl)  hx5) rfl fun v3 T5 w5 im5 rv3 => ?_))))
      obtain ⟨rfl, hS5, _⟩ := rv3
      have hS5 := hS5.unb
      refine nil (t_then ?_)
      refine cnd rfl (fun hb11 => ?_) (fun hb11 => ?_)
      · have hm := ctrue hb11 hm
        refine sq2 (rg (pv (r_mi rfl) (pv (r_ib rfl rfl rfl) (pv (r_mi rfl) (pv (r_ib rfl rfl rfl) (pv (r_zi rfl) (nil (t_then ?_))))))))
        have hm := oI hm; subst hm
        have hn1 : _ = Lp.ret _ := hn1
        subst hn1
        have hm := thn_ret hq1
        have hm := oI hm; subst hm
        exact rtn (r_blk (r_then (r_then (r_blk (r_then (r_then (ret1 rfl rfl ⟨_, rfl, _, (iT im1 (iT im3 (iT im4 im5))), ⟨rfl, hS5.sel [0] rfl, trivial⟩⟩)))))))
      have hm := cfalse hb11 hm
      refine skp (t_blk (t_then ?_))
      have hm := oI hm; subst hm
      exact rg (pv (r_mi rfl) (pv (r_ib rfl rfl rfl) (pv (r_zi rfl) (nil (t_then ⟨m1, Nat.lt_succ_self _, _, _, (IntKind.wrap .i64 (x2 + 1)), env_has ⟨rfl, rfl, rfl, trivial⟩, (iT im4 im5), hS5.sel [0] rfl, hn1⟩)))))
    have hm := cfalse hb10 hm
    have hm := oI hm; subst hm
    have hn1 : _ = Lp.brk _ := hn1
    subst hn1
    have hm := thn_brk hq1
    refine xt (x_then (x_then (x_eq (t_then ?_))))
    refine sq2 (rg (pv (r_zi rfl) (nil (t_then ?_))))
    have hm := oI hm; subst hm
    exact rtn (r_then (ret1 rfl rfl ⟨_, rfl, _, (iT im1 (iT im3 im4)), ⟨rfl, hS4.sel [0] rfl, trivial⟩⟩))
  have hm := cfalse hb9 hm
  refine skp (t_thenR [] trivial fun J => ?_)
  refine sq2 (rg (pv (r_zi rfl) (nil (t_then ?_))))
  have hm := oI hm; subst hm
  exact rtn (ret1 rfl rfl ⟨_, rfl, _, (iT im1 im3), ⟨rfl, hS3.sel [0] rfl, trivial⟩⟩)

theorem ref07_Letter_sim {p0 : Int} {r : Bool} (hS : Sep g T0 w0 [R])  (hm : ref07_Letter p0 = some r) :
    Calls Tryz.prog 33 #[.int .u8 p0] w0 (RetS T0 w0 fun T w v => v = .bool r ∧ Sep g T w [R] ∧ True) := by
  refine enter (args := [.int .u8 p0]) Tryz.func33 rfl Tryz.ntmps33 rfl fun J => ?_
  unfold ref07_Letter at hm
  refine sq2 (rg (pv (r_zb rfl) (nil (t_then ?_))))
  refine sq2 (rg (pv (r_mi rfl) (pv (r_ib rfl rfl rfl) (pv (r_mb rfl) (?_)))))
  rcases Bool.eq_false_or_eq_true (decide (97 ≤ p0)) with hb1 | hb1
  · have hm := ctrue hb1 hm
    refine gT (d0 := 5) rfl rfl hb1 (pv (r_mi rfl) (gT (d0 := 5) rfl rfl hb1 (pv (r_ib rfl rfl rfl) (pv (r_pkt rfl hb1 rfl) (pv (r_mb rfl) (?_))))))
    rcases Bool.eq_false_or_eq_true (decide (p0 ≤ 122)) with hb2 | hb2
    · have hm := ctrue hb2 hm
      refine gF (d0 := 9) rfl rfl (by rw [hb2]; rfl) (gF (d0 := 9) rfl rfl (by rw [hb2]; rfl) (gF (d0 := 9) rfl rfl (by rw [hb2]; rfl) (gU (d0 := 12) rfl rfl (gU (d0 := 12) rfl rfl (gF (d0 := 9) rfl rfl (by rw [hb2]; rfl) (pv (r_pkt rfl hb2 rfl) (pv (r_mb rfl) (gF (d0 := 17) rfl rfl rfl (gF (d0 := 17) rfl rfl rfl (pv (r_pkt rfl rfl rfl) (pv (r_zb rfl) (nil (t_then ?_)))))))))))))
      have hm := oI hm; subst hm
      exact rtn (ret1 rfl rfl ⟨_, rfl, _, Im.refl, ⟨rfl, hS.sel [0] rfl, trivial⟩⟩)
    have hm := cfalse hb2 hm
    refine gT (d0 := 9) rfl rfl hb2 (pv (r_mi rfl) (gT (d0 := 9) rfl rfl hb2 (pv (r_ib rfl rfl rfl) (gT (d0 := 9) rfl rfl hb2 (pv (r_mb rfl) (?_))))))
    rcases Bool.eq_false_or_eq_true (decide (65 ≤ p0)) with hb3 | hb3
    · have hm := ctrue hb3 hm
      refine gT (d0 := 12) rfl rfl hb3 (pv (r_mi rfl) (gT (d0 := 12) rfl rfl hb3 (pv (r_ib rfl rfl rfl) (gT (d0 := 9) rfl rfl hb2 (pv (r_pkt rfl hb3 rfl) (pv (r_pkf rfl hb2 rfl) (pv (r_mb rfl) (?_))))))))
      rcases Bool.eq_false_or_eq_true (decide (p0 ≤ 90)) with hb4 | hb4
      · have hm := ctrue hb4 hm
        refine gF (d0 := 17) rfl rfl (by rw [hb4]; rfl) (gF (d0 := 17) rfl rfl (by rw [hb4]; rfl) (pv (r_pkt rfl hb4 rfl) (pv (r_zb rfl) (nil (t_then ?_)))))
        have hm := oI hm; subst hm
        exact rtn (ret1 rfl rfl ⟨_, rfl, _, Im.refl, ⟨rfl, hS.sel [0] rfl, trivial⟩⟩)
      have hm := cfalse hb4 hm
      refine gT (d0 := 17) rfl rfl hb4 (pv (r_mi rfl) (gT (d0 := 17) rfl rfl hb4 (pv (r_ib rfl rfl rfl) (pv (r_pkf rfl hb4 rfl) (pv (r_zb rfl) (nil (t_then ?_)))))))
      have hm := oI hm; subst hm
      exact rtn (ret1 rfl rfl ⟨_, rfl, _, Im.refl, ⟨rfl, hS.sel [0] rfl, trivial⟩⟩)
    have hm := cfalse hb3 hm
    refine gF (d0 := 12) rfl rfl (by rw [hb3]; rfl) (gF (d0 := 12) rfl rfl (by rw [hb3]; rfl) (gT (d0 := 9) rfl rfl hb2 (pv (r_pkf rfl hb3 rfl) (pv (r_pkf rfl hb2 rfl) (pv (r_mb rfl) (gT (d0 := 17) rfl rfl rfl (pv (r_mi rfl) (gT (d0 := 17) rfl rfl rfl (pv (r_ib rfl rfl rfl) (pv (r_pkf rfl rfl rfl) (pv (r_zb rfl) (nil (t_then ?_)))))))))))))
    have hm := oI hm; subst hm
    exact rtn (ret1 rfl rfl ⟨_, rfl, _, Im.refl, ⟨rfl, hS.sel [0] rfl, trivial⟩⟩)
  have hm := cfalse hb1 hm
  refine gF (d0 := 5) rfl rfl (by rw [hb1]; rfl) (gF (d0 := 5) rfl rfl (by rw [hb1]; rfl) (pv (r_pkf rfl hb1 rfl) (pv (r_mb rfl) (gT (d0 := 9) rfl rfl rfl (pv (r_mi rfl) (gT (d0 := 9) rfl rfl rfl (pv (r_ib rfl rfl rfl) (gT (d0 := 9) rfl rfl rfl (pv (r_mb rfl) (?_))))))))))
  rcases Bool.eq_false_or_eq_true (decide (65 ≤ p0)) with hb5 | hb5
  · have hm := ctrue hb5 hm
    refine gT (d0 := 12) rfl rfl hb5 (pv (r_mi rfl) (gT (d0 := 12) rfl rfl hb5 (pv (r_ib rfl rfl rfl) (gT (d0 := 9) rfl rfl rfl (pv (r_pkt rfl hb5 rfl) (pv (r_pkf rfl rfl rfl) (pv (r_mb rfl) (?_))))))))
    rcases Bool.eq_false_or_eq_true (decide (p0 ≤ 90)) with hb6 | hb6
    · have hm := ctrue hb6 hm
      refine gF (d0 := 17) rfl rfl (by rw [hb6]; rfl) (gF (d0 := 17) rfl rfl (by rw [hb6]; rfl) (pv (r_pkt rfl hb6 rfl) (pv (r_zb rfl) (nil (t_then ?_)))))
      have hm := oI hm; subst hm
      exact rtn (ret1 rfl rfl ⟨_, rfl, _, Im.refl, ⟨rfl, hS.sel [0] rfl, trivial⟩⟩)
    have hm := cfalse hb6 hm
    refine gT (d0 := 17) rfl rfl hb6 (pv (r_mi rfl) (gT (d0 := 17) rfl rfl hb6 (pv (r_ib rfl rfl rfl) (pv (r_pkf rfl hb6 rfl) (pv (r_zb rfl) (nil (t_then ?_)))))))
    have hm := oI hm; subst hm
    exact rtn (ret1 rfl rfl ⟨_, rfl, _, Im.refl, ⟨rfl, hS.sel [0] rfl, trivial⟩⟩)
  have hm := cfalse hb5 hm
  refine gF (d0 := 12) rfl rfl (by rw [hb5]; rfl) (gF (d0 := 12) rfl rfl (by rw [hb5]; rfl) (gT (d0 := 9) rfl rfl rfl (pv (r_pkf rfl hb5 rfl) (pv (r_pkf rfl rfl rfl) (pv (r_mb rfl) (gT (d0 := 17) rfl rfl rfl (pv (r_mi rfl) (gT (d0 := 17) rfl rfl rfl (pv (r_ib rfl rfl rfl) (pv (r_pkf rfl rfl rfl) (pv (r_zb rfl) (nil (t_then ?_)))))))))))))
  have hm := oI hm; subst hm
  exact rtn (ret1 rfl rfl ⟨_, rfl, _, Im.refl, ⟨rfl, hS.sel [0] rfl, trivial⟩⟩)

theorem ref07_Digit_sim {p0 : Int} {r : Bool} (hS : Sep g T0 w0 [R])  (hm : ref07_Digit p0 = some r) :
    Calls Tryz.prog 36 #[.int .u8 p0] w0 (RetS T0 w0 fun T w v => v = .bool r ∧ Sep g T w [R] ∧ True) := by
  refine enter (args := [.int .u8 p0]) Tryz.func36 rfl Tryz.ntmps36 rfl fun J => ?_
  unfold ref07_Digit at hm
  refine sq2 (rg (pv (r_zb rfl) (nil (t_then ?_))))
  refine sq2 (rg (pv (r_mi rfl) (pv (r_ib rfl rfl rfl) (pv (r_mb rfl) (?_)))))
  rcases Bool.eq_false_or_eq_true (decide (48 ≤ p0)) with hb1 | hb1
  · have hm := ctrue hb1 hm
    refine gT (d0 := 5) rfl rfl hb1 (pv (r_mi rfl) (gT (d0 := 5) rfl rfl hb1 (pv (r_ib rfl rfl rfl) (pv (r_pkt rfl hb1 rfl) (pv (r_zb rfl) (nil (t_then ?_)))))))
    have hm := oI hm; subst hm
    exact rtn (ret1 rfl rfl ⟨_, rfl, _, Im.refl, ⟨rfl, hS.sel [0] rfl, trivial⟩⟩)
  have hm := cfalse hb1 hm
  refine gF (d0 := 5) rfl rfl (by rw [hb1]; rfl) (gF (d0 := 5) rfl rfl (by rw [hb1]; rfl) (pv (r_pkf rfl hb1 rfl) (pv (r_zb rfl) (nil (t_then ?_)))))
  have hm := oI hm; subst hm
  exact rtn (ret1 rfl rfl ⟨_, rfl, _, Im.refl, ⟨rfl, hS.sel [0] rfl, trivial⟩⟩)

theorem ref07_run_sim {p0 : List UInt8} {p1 : Int} {r : Int} (hS : Sep g T0 w0 [R])  (hm : ref07_run p0 p1 = some r) :
    Calls Tryz.prog 34 #[.string ⟨p0.toArray⟩, iv p1] w0 (RetS T0 w0 fun T w v => v = iv r ∧ Sep g T w [R] ∧ True) := by
  refine enter (args := [.string ⟨p0.toArray⟩, iv p1]) Tryz.func34 rfl Tryz.ntmps34 rfl fun J => ?_
  unfold ref07_run at hm
  refine sq2 (rg (pv (r_zi rfl) (nil (t_then ?_))))
  refine sq2 (rg (pv (r_zi rfl) (nil (t_then ?_))))
  refine sq2 ?_
  obtain ⟨o1, ho1, hq1⟩ := bindS hm
  obtain ⟨bd1, hbd1, ho1⟩ := loop_open ho1
  refine blk (wp_loop_ghost (fun m a w1 => ∃ (J : JV) (T1 : TP) (x1 : Int), a = env (nf 31) J [(0, .string ⟨p0.toArray⟩), (1, iv p1), (5, iv x1)] ∧ Im T0 w0 T1 w1 ∧ Sep g T1 w1 [R] ∧ loopM bd1 m x1 = some o1) NN ⟨_, _, 0, env_has ⟨rfl, rfl, rfl, trivial⟩, Im.refl, hS.sel [0] rfl, ho1⟩ ?_)
  rintro m _ w1 ⟨J, T1, x1, rfl, im1, hS1, ho1⟩
  obtain ⟨m1, z1, rfl, hm, hn1⟩ := loop_round ho1
  rw [hbd1] at hm
  refine sq2 (sq2 (rg (pv (r_mi rfl) (pv (r_mi rfl) (pv (r_ib rfl rfl rfl) (pv (r_mt rfl) (pv (r_lnt rfl underlying9) (pv (r_ib rfl rfl rfl) (pv (r_mb rfl) (?_))))))))))
  rcases Bool.eq_false_or_eq_true (decide ((IntKind.wrap .i64 (p1 + x1)) < (List.length p0 : Int))) with hb1 | hb1
  · have hm := ctrue hb1 hm
    obtain ⟨u1, hx1, hm⟩ := bindS hm
    obtain ⟨y1, hx2, hm⟩ := bindS hm
    refine gT (d0 := 12) rfl rfl hb1 (pv (r_mt rfl) (gT (d0 := 12) rfl rfl hb1 (pv (r_mi rfl) (gT (d0 := 12) rfl rfl hb1 (pv (r_mi rfl) (gT (d0 := 12) rfl rfl hb1 (pv (r_ib rfl rfl rfl) (gT (d0 := 12) rfl rfl hb1 (pv (r_sx rfl rfl hx1 underlying9) (gT (d0 := 12) rfl rfl hb1 (wl rfl (calS cf33 rfl (ref07_Letter_sim (p0 := (UInt8.toNat u1 : Int)) (hS1.bun [0] [] rfl)  hx2) rfl fun v1 T2 w2 im2 rv1 => ?_))))))))))))
    obtain ⟨rfl, hS2, _⟩ := rv1
    have hS2 := hS2.unb
    refine gT (d0 := 12) rfl rfl hb1 (pv (r_mb rfl) (?_))
    rcases Bool.eq_false_or_eq_true y1 with hb2 | hb2
    · have hm := ctrue hb2 hm
      refine gF (d0 := 19) rfl rfl (by rw [hb2]; rfl) (gF (d0 := 19) rfl rfl (by rw [hb2]; rfl) (gF (d0 := 19) rfl rfl (by rw [hb2]; rfl) (gF (d0 := 19) rfl rfl (by rw [hb2]; rfl) (gF (d0 := 19) rfl rfl (by rw [hb2]; rfl) (gF (d0 := 19) rfl rfl (by rw [hb2]; rfl) (gT (d0 := 12) rfl rfl hb1 (pv (r_pkt rfl hb2 rfl) (pv (r_pkt rfl hb1 rfl) (nil (t_then ?_))))))))))
      refine cnd (b := true) rfl (fun _ => ?_) (fun h => nomatch h)
      refine skp (t_then ?_)
      refine blk ?_
      have hm := oI hm; subst hm
      exact rg (pv (r_mi rfl) (pv (r_ib rfl rfl rfl) (pv (r_zi rfl) (nil (t_blk (t_then ⟨m1, Nat.lt_succ_self _, _, _, (IntKind.wrap .i64 (x1 + 1)), env_has ⟨rfl, rfl, rfl, trivial⟩, (iT im1 im2), hS2.sel [0] rfl, hn1⟩))))))
    have hm := cfalse hb2 hm
    obtain ⟨u2, hx3, hm⟩ := bindS hm
    obtain ⟨y2, hx4, hm⟩ := bindS hm
    refine gT (d0 := 19) rfl rfl hb2 (pv (r_mt rfl) (gT (d0 := 19) rfl rfl hb2 (pv (r_mi rfl) (gT (d0 := 19) rfl rfl hb2 (pv (r_mi rfl) (gT (d0 := 19) rfl rfl hb2 (pv (r_ib rfl rfl rfl) (gT (d0 := 19) rfl rfl hb2 (pv (r_sx rfl rfl hx3 underlying9) (gT (d0 := 19) rfl rfl hb2 (wl rfl (calS cf36 rfl (ref07_Digit_sim (p0 := (UInt8.toNat u2 : Int)) (hS2.bun [0] [] rfl)  hx4) rfl fun v2 T3 w3 im3 rv2 => ?_))))))))))))
    obtain ⟨rfl, hS3, _⟩ := rv2
    have hS3 := hS3.unb
    refine gT (d0 := 12) rfl rfl hb1 (pv (r_pkf rfl hb2 rfl) (pv (r_pkt rfl hb1 rfl) (nil (t_then ?_))))
    refine cnd rfl (fun hb3 => ?_) (fun hb3 => ?_)
    · have hm := ctrue hb3 hm
      refine skp (t_then ?_)
      refine blk ?_
      have hm := oI hm; subst hm
      exact rg (pv (r_mi rfl) (pv (r_ib rfl rfl rfl) (pv (r_zi rfl) (nil (t_blk (t_then ⟨m1, Nat.lt_succ_self _, _, _, (IntKind.wrap .i64 (x1 + 1)), env_has ⟨rfl, rfl, rfl, trivial⟩, (iT im1 (iT im2 im3)), hS3.sel [0] rfl, hn1⟩))))))
    have hm := cfalse hb3 hm
    have hm := oI hm; subst hm
    have hn1 : _ = Lp.brk _ := hn1
    subst hn1
    have hm := thn_brk hq1
    refine xt (x_then (x_then (x_eq (t_then ?_))))
    refine sq2 (rg (pv (r_mi rfl) (pv (r_zi rfl) (nil (t_thenR [(4, iv x1)] ⟨rfl, trivial⟩ fun J => ?_)))))
    have hm := oI hm; subst hm
    exact rtn (ret1 rfl rfl ⟨_, rfl, _, (iT im1 (iT im2 im3)), ⟨rfl, hS3.sel [0] rfl, trivial⟩⟩)
  have hm := cfalse hb1 hm
  refine gF (d0 := 12) rfl rfl (by rw [hb1]; rfl) (gF (d0 := 12) rfl rfl (by rw [hb1]; rfl) (gF (d0 := 12) rfl rfl (by rw [hb1]; rfl) (gF (d0 := 12) rfl rfl (by rw [hb1]; rfl) (gF (d0 := 12) rfl rfl (by rw [hb1]; rfl) (gF (d0 := 12) rfl rfl (by rw [hb1]; rfl) (gF (d0 := 12) rfl rfl (by rw [hb1]; rfl) (gU (d0 := 19) rfl rfl (gU (d0 := 19) rfl rfl (gU (d0 := 19) rfl rfl (gU (d0 := 19) rfl rfl (gU (d0 := 19) rfl rfl (gU (d0 := 19) rfl rfl (gF (d0 := 12) rfl rfl (by rw [hb1]; rfl) (pv (r_pkf rfl hb1 rfl) (nil (t_then ?_))))))))))))))))
  refine cnd (b := false) rfl (fun h => nomatch h) (fun _ => ?_)
  have hm := oI hm; subst hm
  have hn1 : _ = Lp.brk _ := hn1
  subst hn1
  have hm := thn_brk hq1
  refine xt (x_then (x_then (x_eq (t_then ?_))))
  refine sq2 (rg (pv (r_mi rfl) (pv (r_zi rfl) (nil (t_thenR [(4, iv x1)] ⟨rfl, trivial⟩ fun J => ?_)))))
  have hm := oI hm; subst hm
  exact rtn (ret1 rfl rfl ⟨_, rfl, _, im1, ⟨rfl, hS1.sel [0] rfl, trivial⟩⟩)

theorem ref07_Word_sim {p0 : List UInt8} {r : Bool} (hS : Sep g T0 w0 [R])  (hm : ref07_Word p0 = some r) :
    Calls Tryz.prog 35 #[.string ⟨p0.toArray⟩] w0 (RetS T0 w0 fun T w v => v = .bool r ∧ Sep g T w [R] ∧ True) := by
  refine enter (args := [.string ⟨p0.toArray⟩]) Tryz.func35 rfl Tryz.ntmps35 rfl fun J => ?_
  unfold ref07_Word at hm
  refine sq2 (rg (pv (r_zb rfl) (nil (t_then ?_))))
  refine sq2 (rg (wl rfl (bsS (r := rStr) (l := tbl1) (css := (List.map (fun x => [.string ⟨x.toArray⟩]) tbl1)) hS underlying153 sizeOf9 zeroValue9 rfl rfl (by kernel_rfl) rfl (allR_map fun _ => rfl) rfl rfl fun w1 a1 n1 c1 im1 hS1 => ?_)))
  refine pv (r_zs rfl) (nil (t_then ?_))
  refine sq2 (sq2 (rg (pv (r_zi rfl) (nil (t_then ?_)))))
  obtain ⟨o1, ho1, hq1⟩ := bindS hm
  obtain ⟨bd1, hbd1, ho1⟩ := loop_open ho1
  refine blk (wp_loop_ghost (fun m a w2 => ∃ (J : JV) (T1 : TP) (x1 : Int), a = env (nf 18) J [(0, .string ⟨p0.toArray⟩), (3, .slice a1 n1 c1), (4, iv x1)] ∧ Im T0 w1 T1 w2 ∧ Sep g T1 w2 [ownA rStr 9 (.slice a1 n1 c1) tbl1, R] ∧ loopM bd1 m x1 = some o1) NN ⟨_, _, 0, env_has ⟨rfl, rfl, rfl, trivial⟩, Im.refl, hS1.sel [0, 1] rfl, ho1⟩ ?_)
  rintro m _ w2 ⟨J, T1, x1, rfl, im2, hS2, ho1⟩
  obtain ⟨m1, z1, rfl, hm, hn1⟩ := loop_round ho1
  rw [hbd1] at hm
  refine sq2 (sq2 (rg (pv (r_mi rfl) (pv (r_ms rfl) (pv (r_lnV rfl (hS2.own (i := 0) ⟨rfl, rfl⟩).v underlying153) (pv (r_ib rfl rfl rfl) (nil (t_then ?_))))))))
  refine cnd rfl (fun hb1 => ?_) (fun hb1 => ?_)
  · have hm := ctrue hb1 hm
    refine skp (t_then ?_)
    refine sq2 (blk (sq2 ?_))
    obtain ⟨u1, hx1, hm⟩ := bindS hm
    obtain ⟨b1, of1, cs1, k1, cp1, hv1, hp1, hl1, he1, hr1, hc1⟩ := (hS2.own (i := 0) ⟨rfl, rfl⟩).v.ixq hx1 rfl
    cases hr1
    refine rg (pv (r_ms rfl) (pv (r_mi rfl) (pv (r_ixe hv1 rfl underlying153 sizeOf9 hp1 hl1 he1) (pv (r_ld rfl isAgg9 (hc1.get (j := 0) rfl)) (pv (r_mt rfl) (pv (r_sqL rfl rfl) (nil (t_then ?_))))))))
    refine cnd rfl (fun hb2 => ?_) (fun hb2 => ?_)
    · have hm := ctrue hb2 hm
      refine sq2 (rg (pv (r_zb rfl) (nil (t_then ?_))))
      have hm := oI hm; subst hm
      have hn1 : _ = Lp.ret _ := hn1
      subst hn1
      have hm := thn_ret hq1
      have hm := oI hm; subst hm
      exact rtn (r_blk (r_then (r_then (r_blk (r_then (ret1 rfl rfl ⟨_, rfl, _, (iT im1 im2), ⟨rfl, hS2.sel [1] rfl, trivial⟩⟩))))))
    have hm := cfalse hb2 hm
    refine skp (t_blk (t_then ?_))
    have hm := oI hm; subst hm
    exact rg (pv (r_mi rfl) (pv (r_ib rfl rfl rfl) (pv (r_zi rfl) (nil (t_then ⟨m1, Nat.lt_succ_self _, _, _, (IntKind.wrap .i64 (x1 + 1)), env_has ⟨rfl, rfl, rfl, trivial⟩, im2, hS2.sel [0, 1] rfl, hn1⟩)))))
  have hm := cfalse hb1 hm
  have hm := oI hm; subst hm
  have hn1 : _ = Lp.brk _ := hn1
  subst hn1
  have hm := thn_brk hq1
  refine xt (x_then (x_then (x_eq (t_then ?_))))
  refine sq2 (rg (pv (r_zb rfl) (nil (t_then ?_))))
  have hm := oI hm; subst hm
  exact rtn (ret1 rfl rfl ⟨_, rfl, _, (iT im1 im2), ⟨rfl, hS2.sel [1] rfl, trivial⟩⟩)

theorem ref07_value_sim {p0 : Int} {r : Int} (hS : Sep g T0 w0 [R])  (hm : ref07_value p0 = some r) :
    Calls Tryz.prog 61 #[.int .u8 p0] w0 (RetS T0 w0 fun T w v => v = iv r ∧ Sep g T w [R] ∧ True) := by
  refine enter (args := [.int .u8 p0]) Tryz.func61 rfl Tryz.ntmps61 rfl fun J => ?_
  unfold ref07_value at hm
  refine sq2 (rg (pv (r_zi rfl) (nil (t_then ?_))))
  refine sq2 (sq2 ?_)
  obtain ⟨y1, hx1, hm⟩ := bindS hm
  refine rg (pv (r_mi rfl) (wl rfl (calS cf36 rfl (ref07_Digit_sim (p0 := p0) (hS.bun [0] [] rfl)  hx1) rfl fun v1 T1 w1 im1 rv1 => ?_)))
  obtain ⟨rfl, hS1, _⟩ := rv1
  have hS1 := hS1.unb
  refine nil (t_then ?_)
  refine cnd rfl (fun hb1 => ?_) (fun hb1 => ?_)
  · have hm := ctrue hb1 hm
    refine sq2 (rg (pv (r_mi rfl) (pv (r_cv rfl underlying5 underlying3) (pv (r_ib rfl rfl rfl) (pv (r_zi rfl) (nil (t_then ?_)))))))
    have hm := oI hm; subst hm
    exact rtn (r_then (ret1 rfl rfl ⟨_, rfl, _, im1, ⟨rfl, hS1.sel [0] rfl, trivial⟩⟩))
  have hm := cfalse hb1 hm
  refine skp (t_then ?_)
  refine sq2 (sq2 (rg (pv (r_mi rfl) (pv (r_ib rfl rfl rfl) (pv (r_mb rfl) (?_))))))
  rcases Bool.eq_false_or_eq_true (decide (97 ≤ p0)) with hb2 | hb2
  · have hm := ctrue hb2 hm
    refine gT (d0 := 10) rfl rfl hb2 (pv (r_mi rfl) (gT (d0 := 10) rfl rfl hb2 (pv (r_ib rfl rfl rfl) (pv (r_pkt rfl hb2 rfl) (nil (t_then ?_))))))
    refine cnd rfl (fun hb3 => ?_) (fun hb3 => ?_)
    · have hm := ctrue hb3 hm
      refine sq2 (rg (pv (r_mi rfl) (pv (r_cv rfl underlying5 underlying3) (pv (r_ib rfl rfl rfl) (pv (r_zi rfl) (nil (t_then ?_)))))))
      have hm := oI hm; subst hm
      exact rtn (r_then (ret1 rfl rfl ⟨_, rfl, _, im1, ⟨rfl, hS1.sel [0] rfl, trivial⟩⟩))
    have hm := cfalse hb3 hm
    refine skp (t_then ?_)
    refine sq2 (sq2 (rg (pv (r_mi rfl) (pv (r_ib rfl rfl rfl) (pv (r_mb rfl) (?_))))))
    rcases Bool.eq_false_or_eq_true (decide (65 ≤ p0)) with hb4 | hb4
    · have hm := ctrue hb4 hm
      refine gT (d0 := 19) rfl rfl hb4 (pv (r_mi rfl) (gT (d0 := 19) rfl rfl hb4 (pv (r_ib rfl rfl rfl) (pv (r_pkt rfl hb4 rfl) (nil (t_then ?_))))))
      refine cnd rfl (fun hb5 => ?_) (fun hb5 => ?_)
      · have hm := ctrue hb5 hm
        refine sq2 (rg (pv (r_mi rfl) (pv (r_cv rfl underlying5 underlying3) (pv (r_ib rfl rfl rfl) (pv (r_zi rfl) (nil (t_then ?_)))))))
        have hm := oI hm; subst hm
        exact rtn (r_then (ret1 rfl rfl ⟨_, rfl, _, im1, ⟨rfl, hS1.sel [0] rfl, trivial⟩⟩))
      have hm := cfalse hb5 hm
      refine skp (t_then ?_)
      refine sq2 (rg (pv (r_zi rfl) (nil (t_then ?_))))
      have hm := oI hm; subst hm
      exact rtn (ret1 rfl rfl ⟨_, rfl, _, im1, ⟨rfl, hS1.sel [0] rfl, trivial⟩⟩)
    have hm := cfalse hb4 hm
    refine gF (d0 := 19) rfl rfl (by rw [hb4]; rfl) (gF (d0 := 19) rfl rfl (by rw [hb4]; rfl) (pv (r_pkf rfl hb4 rfl) (nil (t_then ?_))))
    refine cnd (b := false) rfl (fun h => nomatch h) (fun _ => ?_)
    refine skp (t_then ?_)
    refine sq2 (rg (pv (r_zi rfl) (nil (t_then ?_))))
    have hm := oI hm; subst hm
    exact rtn (ret1 rfl rfl ⟨_, rfl, _, im1, ⟨rfl, hS1.sel [0] rfl, trivial⟩⟩)
  have hm := cfalse hb2 hm
  refine gF (d0 := 10) rfl rfl (by rw [hb2]; rfl) (gF (d0 := 10) rfl rfl (by rw [hb2]; rfl) (pv (r_pkf rfl hb2 rfl) (nil (t_then ?_))))
  refine cnd (b := false) rfl (fun h => nomatch h) (fun _ => ?_)
  refine skp (t_then ?_)
  refine sq2 (sq2 (rg (pv (r_mi rfl) (pv (r_ib rfl rfl rfl) (pv (r_mb rfl) (?_))))))
  rcases Bool.eq_false_or_eq_true (decide (65 ≤ p0)) with hb8 | hb8
  · have hm := ctrue hb8 hm
    refine gT (d0 := 19) rfl rfl hb8 (pv (r_mi rfl) (gT (d0 := 19) rfl rfl hb8 (pv (r_ib rfl rfl rfl) (pv (r_pkt rfl hb8 rfl) (nil (t_then ?_))))))
    refine cnd rfl (fun hb9 => ?_) (fun hb9 => ?_)
    · have hm := ctrue hb9 hm
      refine sq2 (rg (pv (r_mi rfl) (pv (r_cv rfl underlying5 underlying3) (pv (r_ib rfl rfl rfl) (pv (r_zi rfl) (nil (t_then ?_)))))))
      have hm := oI hm; subst hm
      exact rtn (r_then (ret1 rfl rfl ⟨_, rfl, _, im1, ⟨rfl, hS1.sel [0] rfl, trivial⟩⟩))
    have hm := cfalse hb9 hm
    refine skp (t_then ?_)
    refine sq2 (rg (pv (r_zi rfl) (nil (t_then ?_))))
    have hm := oI hm; subst hm
    exact rtn (ret1 rfl rfl ⟨_, rfl, _, im1, ⟨rfl, hS1.sel [0] rfl, trivial⟩⟩)
  have hm := cfalse hb8 hm
  refine gF (d0 := 19) rfl rfl (by rw [hb8]; rfl) (gF (d0 := 19) rfl rfl (by rw [hb8]; rfl) (pv (r_pkf rfl hb8 rfl) (nil (t_then ?_))))
  refine cnd (b := false) rfl (fun h => nomatch h) (fun _ => ?_)
  refine skp (t_then ?_)
  refine sq2 (rg (pv (r_zi rfl) (nil (t_then ?_))))
  have hm := oI hm; subst hm
  exact rtn (ret1 rfl rfl ⟨_, rfl, _, im1, ⟨rfl, hS1.sel [0] rfl, trivial⟩⟩)

theorem ref07_number_sim {p0 : List UInt8} {r : Int × Int} (hS : Sep g T0 w0 [R])  (hm : ref07_number p0 = some r) :
    Calls Tryz.prog 37 #[.string ⟨p0.toArray⟩] w0 (RetS T0 w0 fun T w v => v = .tuple #[.int .u32 r.1, iv r.2] ∧ Sep g T w [R] ∧ True) := by
  refine enter (args := [.string ⟨p0.toArray⟩]) Tryz.func37 rfl Tryz.ntmps37 rfl fun J => ?_
  unfold ref07_number at hm
  refine sq2 (rg (pv (r_zi rfl) (pv (r_zi rfl) (nil (t_then ?_)))))
  refine sq2 (rg (pv (r_zi rfl) (nil (t_then ?_))))
  refine sq2 (rg (pv (r_zi rfl) (nil (t_then ?_))))
  obtain ⟨kk1, hkk1, hm⟩ := jn_open hm
  refine cut (fun a w1 => ∃ (J : JV) (T1 : TP) (x1 : Int) (x2 : Int), a = env (nf 47) J [(0, .string ⟨p0.toArray⟩), (4, iv x1), (5, iv x2)] ∧ Im T0 w0 T1 w1 ∧ Sep g T1 w1 [R] ∧ kk1 x1 x2 = some r) ?_ ?_
  · refine sq2 ?_
    obtain ⟨y1, hx1, hm⟩ := bindS hm
    refine rg (pv (r_mt rfl) (wl rfl (calS cf32 rfl (ref07_is_sim (p0 := p0) (p1 := 0) (p2 := ([48, 120] : List UInt8)) (hS.bun [0] [] rfl)  hx1) rfl fun v1 T2 w2 im2 rv1 => ?_)))
    obtain ⟨rfl, hS1, _⟩ := rv1
    have hS1 := hS1.unb
    refine pv (r_mb rfl) (?_)
    rcases Bool.eq_false_or_eq_true y1 with hb1 | hb1
    · have hm := ctrue hb1 hm
      refine gF (d0 := 11) rfl rfl (by rw [hb1]; rfl) (gF (d0 := 11) rfl rfl (by rw [hb1]; rfl) (pv (r_pkt rfl hb1 rfl) (nil (t_then ?_))))
      refine cnd (b := true) rfl (fun _ => ?_) (fun h => nomatch h)
      refine sq2 (rg (pv (r_zi rfl) (nil (t_then ?_))))
      exact rg (pv (r_zi rfl) (nil (t_then ⟨_, _, 16, 2, env_has ⟨rfl, rfl, rfl, trivial⟩, im2, hS1.sel [0] rfl, hm⟩)))
    have hm := cfalse hb1 hm
    obtain ⟨y2, hx2, hm⟩ := bindS hm
    refine gT (d0 := 11) rfl rfl hb1 (pv (r_mt rfl) (gT (d0 := 11) rfl rfl hb1 (wl rfl (calS cf32 rfl (ref07_is_sim (p0 := p0) (p1 := 0) (p2 := ([48, 88] : List UInt8)) (hS1.bun [0] [] rfl)  hx2) rfl fun v2 T3 w3 im3 rv2 => ?_))))
    obtain ⟨rfl, hS2, _⟩ := rv2
    have hS2 := hS2.unb
    refine pv (r_pkf rfl hb1 rfl) (nil (t_then ?_))
    refine cnd rfl (fun hb2 => ?_) (fun hb2 => ?_)
    · have hm := ctrue hb2 hm
      refine sq2 (rg (pv (r_zi rfl) (nil (t_then ?_))))
      exact rg (pv (r_zi rfl) (nil (t_then ⟨_, _, 16, 2, env_has ⟨rfl, rfl, rfl, trivial⟩, (iT im2 im3), hS2.sel [0] rfl, hm⟩)))
    have hm := cfalse hb2 hm
    exact skp (t_then ⟨_, _, 10, 0, env_has ⟨rfl, rfl, rfl, trivial⟩, (iT im2 im3), hS2.sel [0] rfl, hm⟩)
  rintro _ w1 ⟨J, T1, x1, x2, rfl, im1, hS3, hm⟩
  rw [hkk1] at hm
  refine sq2 (sq2 (rg (pv (r_mi rfl) (pv (r_mt rfl) (pv (r_lnt rfl underlying9) (pv (r_ib rfl rfl rfl) (nil (t_then ?_))))))))
  refine cnd rfl (fun hb4 => ?_) (fun hb4 => ?_)
  · have hm := ctrue hb4 hm
    refine sq2 (rg (pv (r_zi rfl) (pv (r_zi rfl) (nil (t_then ?_)))))
    have hm := oI hm; subst hm
    exact rtn (r_then (retN (vs := [.int .u32 0, iv 3]) rfl ⟨rfl, rfl, trivial⟩ rfl ⟨_, rfl, _, im1, ⟨rfl, hS3.sel [0] rfl, trivial⟩⟩))
  have hm := cfalse hb4 hm
  refine skp (t_then ?_)
  refine sq2 (rg (pv (r_zi rfl) (nil (t_then ?_))))
  refine sq2 (rg (pv (r_zi rfl) (nil (t_then ?_))))
  refine sq2 (sq2 (rg (pv (r_mi rfl) (pv (r_zi rfl) (nil (t_then ?_))))))
  obtain ⟨o1, ho1, hq1⟩ := bindS hm
  obtain ⟨bd1, hbd1, ho1⟩ := loop_open ho1
  refine blk (wp_loop_ghost (fun m a w4 => ∃ (J : JV) (T4 : TP) (x3 : Int) (x4 : Int) (x5 : Int), a = env (nf 47) J [(0, .string ⟨p0.toArray⟩), (4, iv x1), (6, iv x3), (7, iv x4), (8, iv x5)] ∧ Im T1 w1 T4 w4 ∧ Sep g T4 w4 [R] ∧ loopM bd1 m (x3, x4, x5) = some o1) NN ⟨_, _, 0, 0, x2, env_has ⟨rfl, rfl, rfl, rfl, rfl, trivial⟩, Im.refl, hS3.sel [0] rfl, ho1⟩ ?_)
  rintro m _ w4 ⟨J, T4, x3, x4, x5, rfl, im4, hS4, ho1⟩
  obtain ⟨m1, z1, rfl, hm, hn1⟩ := loop_round ho1
  rw [hbd1] at hm
  refine sq2 (sq2 (rg (pv (r_mi rfl) (pv (r_mt rfl) (pv (r_lnt rfl underlying9) (pv (r_ib rfl rfl rfl) (nil (t_then ?_))))))))
  refine cnd rfl (fun hb5 => ?_) (fun hb5 => ?_)
  · have hm := ctrue hb5 hm
    refine skp (t_then ?_)
    obtain ⟨kk2, hkk2, hm⟩ := jn_open hm
    refine cut (fun a w5 => ∃ (J : JV) (T5 : TP) (x6 : Int) (x7 : Int), a = env (nf 47) J [(0, .string ⟨p0.toArray⟩), (4, iv x1), (6, iv x6), (7, iv x7), (8, iv x5)] ∧ Im T4 w4 T5 w5 ∧ Sep g T5 w5 [R] ∧ kk2 x6 x7 = some z1) ?_ ?_
    · refine blk (sq2 (sq2 ?_))
      obtain ⟨u1, hx3, hm⟩ := bindS hm
      obtain ⟨y3, hx4, hm⟩ := bindS hm
      refine rg (pv (r_mt rfl) (pv (r_mi rfl) (pv (r_sx rfl rfl hx3 underlying9) (wl rfl (calS cf61 rfl (ref07_value_sim (p0 := (UInt8.toNat u1 : Int)) (hS4.bun [0] [] rfl)  hx4) rfl fun v3 T6 w6 im6 rv3 => ?_)))))
      obtain ⟨rfl, hS5, _⟩ := rv3
      have hS5 := hS5.unb
      refine pv (r_mi rfl) (pv (r_ib rfl rfl rfl) (nil (t_then ?_)))
      refine cnd rfl (fun hb6 => ?_) (fun hb6 => ?_)
      · have hm := ctrue hb6 hm
        refine sq2 (rg (pv (r_zi rfl) (pv (r_zi rfl) (nil (t_then ?_)))))
        have hm := oI hm; subst hm
        have hn1 : _ = Lp.ret _ := hn1
        subst hn1
        have hm := thn_ret hq1
        have hm := oI hm; subst hm
        exact rtn (r_then (r_blk (r_then (r_then (r_blk (r_then (retN (vs := [.int .u32 0, iv 3]) rfl ⟨rfl, rfl, trivial⟩ rfl ⟨_, rfl, _, (iT im1 (iT im4 im6)), ⟨rfl, hS5.sel [0] rfl, trivial⟩⟩)))))))
      have hm := cfalse hb6 hm
      refine skp (t_then ?_)
      refine sq2 ?_
      obtain ⟨u2, hx5, hm⟩ := bindS hm
      obtain ⟨y4, hx6, hm⟩ := bindS hm
      refine rg (pv (r_mi rfl) (pv (r_mi rfl) (pv (r_ib rfl rfl rfl) (pv (r_mt rfl) (pv (r_mi rfl) (pv (r_sx rfl rfl hx5 underlying9) (wl rfl (calS cf61 rfl (ref07_value_sim (p0 := (UInt8.toNat u2 : Int)) (hS5.bun [0] [] rfl)  hx6) rfl fun v4 T7 w7 im7 rv4 => ?_))))))))
      obtain ⟨rfl, hS6, _⟩ := rv4
      have hS6 := hS6.unb
      refine pv (r_ib rfl rfl rfl) (pv (r_zi rfl) (nil (t_then ?_)))
      refine sq2 (rg (pv (r_mi rfl) (pv (r_ib rfl rfl rfl) (nil (t_then ?_)))))
      refine cnd rfl (fun hb7 => ?_) (fun hb7 => ?_)
      · have hm := ctrue hb7 hm
        refine sq2 (rg (pv (r_zi rfl) (nil (t_then ?_))))
        exact rg (pv (r_zi rfl) (nil (t_blk (t_then ⟨_, _, 4294967296, 7, env_has ⟨rfl, rfl, rfl, rfl, rfl, trivial⟩, (iT im6 im7), hS6.sel [0] rfl, hm⟩))))
      have hm := cfalse hb7 hm
      exact skp (t_blk (t_then ⟨_, _, (IntKind.wrap .i64 ((IntKind.wrap .i64 (x3 * x1)) + y4)), x4, env_has ⟨rfl, rfl, rfl, rfl, rfl, trivial⟩, (iT im6 im7), hS6.sel [0] rfl, hm⟩))
    rintro _ w5 ⟨J, T5, x6, x7, rfl, im5, hS7, hm⟩
    rw [hkk2] at hm
    have hm := oI hm; subst hm
    exact rg (pv (r_mi rfl) (pv (r_ib rfl rfl rfl) (pv (r_zi rfl) (nil (t_then ⟨m1, Nat.lt_succ_self _, _, _, x6, x7, (IntKind.wrap .i64 (x5 + 1)), env_has ⟨rfl, rfl, rfl, rfl, rfl, trivial⟩, (iT im4 im5), hS7.sel [0] rfl, hn1⟩)))))
  have hm := cfalse hb5 hm
  have hm := oI hm; subst hm
  have hn1 : _ = Lp.brk _ := hn1
  subst hn1
  have hm := thn_brk hq1
  refine xt (x_then (x_then (x_eq (t_then ?_))))
  refine sq2 (sq2 (rg (pv (r_mi rfl) (pv (r_ib rfl rfl rfl) (nil (t_then ?_))))))
  refine cnd rfl (fun hb8 => ?_) (fun hb8 => ?_)
  · have hm := ctrue hb8 hm
    refine sq2 (rg (pv (r_mi rfl) (pv (r_zi rfl) (pv (r_zi rfl) (nil (t_then ?_))))))
    have hm := oI hm; subst hm
    exact rtn (r_then (retN (vs := [.int .u32 0, iv x4]) rfl ⟨rfl, rfl, trivial⟩ rfl ⟨_, rfl, _, (iT im1 im4), ⟨rfl, hS4.sel [0] rfl, trivial⟩⟩))
  have hm := cfalse hb8 hm
  refine skp (t_then ?_)
  refine sq2 (rg (pv (r_mi rfl) (pv (r_cv rfl underlying3 underlying56) (pv (r_zi rfl) (pv (r_zi rfl) (nil (t_then ?_)))))))
  have hm := oI hm; subst hm
  exact rtn (retN (vs := [.int .u32 (IntKind.wrap .u32 x3), iv 0]) rfl ⟨rfl, rfl, trivial⟩ rfl ⟨_, rfl, _, (iT im1 im4), ⟨rfl, hS4.sel [0] rfl, trivial⟩⟩)

theorem ref07_quoted_sim {p0 : List UInt8} {p1 : Int} {r : Int × Int} (hS : Sep g T0 w0 [R])  (hm : ref07_quoted p0 p1 = some r) :
    Calls Tryz.prog 38 #[.string ⟨p0.toArray⟩, iv p1] w0 (RetS T0 w0 fun T w v => v = .tuple #[.int .u32 r.1, iv r.2] ∧ Sep g T w [R] ∧ True) := by
  refine enter (args := [.string ⟨p0.toArray⟩, iv p1]) Tryz.func38 rfl Tryz.ntmps38 rfl fun J => ?_
  unfold ref07_quoted at hm
  refine sq2 (rg (pv (r_zi rfl) (pv (r_zi rfl) (nil (t_then ?_)))))
  refine sq2 (sq2 ?_)
  obtain ⟨y1, hx1, hm⟩ := bindS hm
  refine rg (pv (r_mt rfl) (pv (r_mi rfl) (pv (r_ib rfl rfl rfl) (wl rfl (calS cf32 rfl (ref07_is_sim (p0 := p0) (p1 := IntKind.wrap .i64 (p1 + 1)) (p2 := ([92] : List UInt8)) (hS.bun [0] [] rfl)  hx1) rfl fun v1 T1 w1 im1 rv1 => ?_)))))
  obtain ⟨rfl, hS1, _⟩ := rv1
  have hS1 := hS1.unb
  refine nil (t_then ?_)
  refine cnd rfl (fun hb1 => ?_) (fun hb1 => ?_)
  · have hm := ctrue hb1 hm
    refine sq2 (rg (wl rfl (bsS (r := rStr) (l := ([([110] : List UInt8), ([116] : List UInt8), ([114] : List UInt8), ([48] : List UInt8), ([92] : List UInt8), ([39] : List UInt8)] : List (List UInt8))) (css := [[.string ⟨([110] : List UInt8).toArray⟩], [.string ⟨([116] : List UInt8).toArray⟩], [.string ⟨([114] : List UInt8).toArray⟩], [.string ⟨([48] : List UInt8).toArray⟩], [.string ⟨([92] : List UInt8).toArray⟩], [.string ⟨([39] : List UInt8).toArray⟩]]) hS1 underlying153 sizeOf9 zeroValue9 rfl rfl (by kernel_rfl) rfl ⟨rfl, rfl, rfl, rfl, rfl, rfl, trivial⟩ rfl rfl fun w2 a1 n1 c1 im2 hS2 => ?_)))
    refine pv (r_zs rfl) (nil (t_then ?_))
    refine sq2 (rg (wl rfl (bsS (r := (rInt .u32)) (l := ([10, 9, 13, 0, 92, 39] : List Int)) (css := [[.int .u32 10], [.int .u32 9], [.int .u32 13], [.int .u32 0], [.int .u32 92], [.int .u32 39]]) hS2 underlying36 sizeOf56 zeroValue56 rfl rfl (by kernel_rfl) rfl ⟨rfl, rfl, rfl, rfl, rfl, rfl, trivial⟩ rfl rfl fun w3 a2 n2 c2 im3 hS3 => ?_)))
    refine pv (r_zs rfl) (nil (t_then ?_))
    refine sq2 (sq2 (rg (pv (r_zi rfl) (nil (t_then ?_)))))
    obtain ⟨o1, ho1, hq1⟩ := bindS hm
    obtain ⟨bd1, hbd1, ho1⟩ := loop_open ho1
    refine blk (wp_loop_ghost (fun m a w4 => ∃ (J : JV) (T2 : TP) (x1 : Int), a = env (nf 72) J [(0, .string ⟨p0.toArray⟩), (1, iv p1), (6, .slice a1 n1 c1), (7, .slice a2 n2 c2), (8, iv x1)] ∧ Im T1 w3 T2 w4 ∧ Sep g T2 w4 [ownA (rInt .u32) 56 (.slice a2 n2 c2) ([10, 9, 13, 0, 92, 39] : List Int), ownA rStr 9 (.slice a1 n1 c1) ([([110] : List UInt8), ([116] : List UInt8), ([114] : List UInt8), ([48] : List UInt8), ([92] : List UInt8), ([39] : List UInt8)] : List (List UInt8)), R] ∧ loopM bd1 m x1 = some o1) NN ⟨_, _, 0, env_has ⟨rfl, rfl, rfl, rfl, rfl, trivial⟩, Im.refl, hS3.sel [0, 1, 2] rfl, ho1⟩ ?_)
    rintro m _ w4 ⟨J, T2, x1, rfl, im4, hS4, ho1⟩
    obtain ⟨m1, z1, rfl, hm, hn1⟩ := loop_round ho1
    rw [hbd1] at hm
    refine sq2 (sq2 (rg (pv (r_mi rfl) (pv (r_ms rfl) (pv (r_lnV rfl (hS4.own (i := 1) ⟨rfl, rfl⟩).v underlying153) (pv (r_ib rfl rfl rfl) (nil (t_then ?_))))))))
    refine cnd rfl (fun hb2 => ?_) (fun hb2 => ?_)
    · have hm := ctrue hb2 hm
      refine skp (t_then ?_)
      refine sq2 (blk (sq2 ?_))
      obtain ⟨u1, hx2, hm⟩ := bindS hm
      obtain ⟨b1, of1, cs1, k1, cp1, hv1, hp1, hl1, he1, hr1, hc1⟩ := (hS4.own (i := 1) ⟨rfl, rfl⟩).v.ixq hx2 rfl
      cases hr1
      obtain ⟨z_1, hro1, hm⟩ := bindS hm
      obtain ⟨y2, hx3, hm⟩ := bindS hm
      refine rg (pv (r_mt rfl) (pv (r_mi rfl) (pv (r_ib rfl rfl rfl) (pv (r_ms rfl) (pv (r_mi rfl) (pv (r_ixe hv1 rfl underlying153 sizeOf9 hp1 hl1 he1) (pv (r_ld rfl isAgg9 (hc1.get (j := 0) rfl)) (pv (r_sad rfl rfl (room_some hro1)) (wl rfl (calS cf32 rfl (ref07_is_sim (p0 := p0) (p1 := IntKind.wrap .i64 (p1 + 2)) (p2 := u1 ++ ([39] : List UInt8)) (hS4.bun [0, 1, 2] [] rfl)  hx3) rfl fun v2 T3 w5 im5 rv2 => ?_))))))))))
      obtain ⟨rfl, hS5, _⟩ := rv2
      have hS5 := hS5.unb
      refine nil (t_then ?_)
      refine cnd rfl (fun hb3 => ?_) (fun hb3 => ?_)
      · have hm := ctrue hb3 hm
        refine sq2 ?_
        obtain ⟨u2, hx4, hm⟩ := bindS hm
        obtain ⟨b2, of2, cs2, k2, cp2, hv2, hp2, hl2, he2, hr2, hc2⟩ := (hS5.own (i := 0) ⟨rfl, rfl⟩).v.ixq hx4 rfl
        cases hr2
        refine rg (pv (r_ms rfl) (pv (r_mi rfl) (pv (r_ixe hv2 rfl underlying36 sizeOf56 hp2 hl2 he2) (pv (r_ld rfl isAgg56 (hc2.get (j := 0) rfl)) (pv (r_zi rfl) (pv (r_zi rfl) (nil (t_then ?_))))))))
        have hm := oI hm; subst hm
        have hn1 : _ = Lp.ret _ := hn1
        subst hn1
        have hm := thn_ret hq1
        have hm := oI hm; subst hm
        exact rtn (r_blk (r_then (r_then (r_blk (r_then (r_then (retN (vs := [.int .u32 u2, iv 4]) rfl ⟨rfl, rfl, trivial⟩ rfl ⟨_, rfl, _, (iT im1 (iT im2 (iT im3 (iT im4 im5)))), ⟨rfl, hS5.sel [2] rfl, trivial⟩⟩)))))))
      have hm := cfalse hb3 hm
      refine skp (t_blk (t_then ?_))
      have hm := oI hm; subst hm
      exact rg (pv (r_mi rfl) (pv (r_ib rfl rfl rfl) (pv (r_zi rfl) (nil (t_then ⟨m1, Nat.lt_succ_self _, _, _, (IntKind.wrap .i64 (x1 + 1)), env_has ⟨rfl, rfl, rfl, rfl, rfl, trivial⟩, (iT im4 im5), hS5.sel [0, 1, 2] rfl, hn1⟩)))))
    have hm := cfalse hb2 hm
    have hm := oI hm; subst hm
    have hn1 : _ = Lp.brk _ := hn1
    subst hn1
    have hm := thn_brk hq1
    refine xt (x_then (x_then (x_eq (t_then ?_))))
    refine sq2 (rg (pv (r_zi rfl) (pv (r_zi rfl) (nil (t_then ?_)))))
    have hm := oI hm; subst hm
    exact rtn (r_then (retN (vs := [.int .u32 0, iv 0]) rfl ⟨rfl, rfl, trivial⟩ rfl ⟨_, rfl, _, (iT im1 (iT im2 (iT im3 im4))), ⟨rfl, hS4.sel [2] rfl, trivial⟩⟩))
  have hm := cfalse hb1 hm
  refine skp (t_then ?_)
  refine sq2 (sq2 (rg (pv (r_mi rfl) (pv (r_ib rfl rfl rfl) (pv (r_mt rfl) (pv (r_lnt rfl underlying9) (pv (r_ib rfl rfl rfl) (pv (r_mb rfl) (?_)))))))))
  rcases Bool.eq_false_or_eq_true (decide ((IntKind.wrap .i64 (p1 + 2)) < (List.length p0 : Int))) with hb4 | hb4
  · have hm := ctrue hb4 hm
    obtain ⟨u3, hx5, hm⟩ := bindS hm
    refine gT (d0 := 39) rfl rfl hb4 (pv (r_mt rfl) (gT (d0 := 39) rfl rfl hb4 (pv (r_mi rfl) (gT (d0 := 39) rfl rfl hb4 (pv (r_ib rfl rfl rfl) (gT (d0 := 39) rfl rfl hb4 (pv (r_sx rfl rfl hx5 underlying9) (gT (d0 := 39) rfl rfl hb4 (pv (r_ib rfl rfl rfl) (pv (r_pkt rfl hb4 rfl) (pv (r_mb rfl) (?_))))))))))))
    rcases Bool.eq_false_or_eq_true (decide (32 ≤ (UInt8.toNat u3 : Int))) with hb5 | hb5
    · have hm := ctrue hb5 hm
      obtain ⟨u4, hx6, hm⟩ := bindS hm
      refine gT (d0 := 46) rfl rfl hb5 (pv (r_mt rfl) (gT (d0 := 46) rfl rfl hb5 (pv (r_mi rfl) (gT (d0 := 46) rfl rfl hb5 (pv (r_ib rfl rfl rfl) (gT (d0 := 46) rfl rfl hb5 (pv (r_sx rfl rfl hx6 underlying9) (gT (d0 := 46) rfl rfl hb5 (pv (r_ib rfl rfl rfl) (pv (r_pkt rfl hb5 rfl) (pv (r_mb rfl) (?_))))))))))))
      rcases Bool.eq_false_or_eq_true (decide ((UInt8.toNat u4 : Int) ≤ 126)) with hb6 | hb6
      · have hm := ctrue hb6 hm
        obtain ⟨u5, hx7, hm⟩ := bindS hm
        refine gT (d0 := 53) rfl rfl hb6 (pv (r_mt rfl) (gT (d0 := 53) rfl rfl hb6 (pv (r_mi rfl) (gT (d0 := 53) rfl rfl hb6 (pv (r_ib rfl rfl rfl) (gT (d0 := 53) rfl rfl hb6 (pv (r_sx rfl rfl hx7 underlying9) (gT (d0 := 53) rfl rfl hb6 (pv (r_ib rfl rfl rfl) (pv (r_pkt rfl hb6 rfl) (pv (r_mb rfl) (?_))))))))))))
        rcases Bool.eq_false_or_eq_true ((UInt8.toNat u5 : Int) != 39) with hb7 | hb7
        · have hm := ctrue hb7 hm
          obtain ⟨u6, hx8, hm⟩ := bindS hm
          refine gT (d0 := 60) rfl rfl hb7 (pv (r_mt rfl) (gT (d0 := 60) rfl rfl hb7 (pv (r_mi rfl) (gT (d0 := 60) rfl rfl hb7 (pv (r_ib rfl rfl rfl) (gT (d0 := 60) rfl rfl hb7 (pv (r_sx rfl rfl hx8 underlying9) (gT (d0 := 60) rfl rfl hb7 (pv (r_ib rfl rfl rfl) (pv (r_pkt rfl hb7 rfl) (nil (t_thenR [(0, .string ⟨p0.toArray⟩), (1, iv p1), (66, .bool ((UInt8.toNat u6 : Int) == 39))] ⟨rfl, rfl, rfl, trivial⟩ fun J => ?_))))))))))))
          refine cnd rfl (fun hb8 => ?_) (fun hb8 => ?_)
          · have hm := ctrue hb8 hm
            refine sq2 ?_
            obtain ⟨u7, hx9, hm⟩ := bindS hm
            refine rg (pv (r_mt rfl) (pv (r_mi rfl) (pv (r_ib rfl rfl rfl) (pv (r_sx rfl rfl hx9 underlying9) (pv (r_cv rfl underlying5 underlying56) (pv (r_zi rfl) (pv (r_zi rfl) (nil (t_then ?_)))))))))
            have hm := oI hm; subst hm
            exact rtn (r_then (retN (vs := [.int .u32 (IntKind.wrap .u32 (UInt8.toNat u7 : Int)), iv 3]) rfl ⟨rfl, rfl, trivial⟩ rfl ⟨_, rfl, _, im1, ⟨rfl, hS1.sel [0] rfl, trivial⟩⟩))
          have hm := cfalse hb8 hm
          refine skp (t_then ?_)
          refine sq2 (rg (pv (r_zi rfl) (pv (r_zi rfl) (nil (t_then ?_)))))
          have hm := oI hm; subst hm
          exact rtn (retN (vs := [.int .u32 0, iv 0]) rfl ⟨rfl, rfl, trivial⟩ rfl ⟨_, rfl, _, im1, ⟨rfl, hS1.sel [0] rfl, trivial⟩⟩)
        have hm := cfalse hb7 hm
        refine gF (d0 := 60) rfl rfl (by rw [hb7]; rfl) (gF (d0 := 60) rfl rfl (by rw [hb7]; rfl) (gF (d0 := 60) rfl rfl (by rw [hb7]; rfl) (gF (d0 := 60) rfl rfl (by rw [hb7]; rfl) (gF (d0 := 60) rfl rfl (by rw [hb7]; rfl) (pv (r_pkf rfl hb7 rfl) (nil (t_thenR [(0, .string ⟨p0.toArray⟩), (1, iv p1), (66, .bool false)] ⟨rfl, rfl, rfl, trivial⟩ fun J => ?_)))))))
        refine cnd (b := false) rfl (fun h => nomatch h) (fun _ => ?_)
        refine skp (t_then ?_)
        refine sq2 (rg (pv (r_zi rfl) (pv (r_zi rfl) (nil (t_then ?_)))))
        have hm := oI hm; subst hm
        exact rtn (retN (vs := [.int .u32 0, iv 0]) rfl ⟨rfl, rfl, trivial⟩ rfl ⟨_, rfl, _, im1, ⟨rfl, hS1.sel [0] rfl, trivial⟩⟩)
      have hm := cfalse hb6 hm
      refine gF (d0 := 53) rfl rfl (by rw [hb6]; rfl) (gF (d0 := 53) rfl rfl (by rw [hb6]; rfl) (gF (d0 := 53) rfl rfl (by rw [hb6]; rfl) (gF (d0 := 53) rfl rfl (by rw [hb6]; rfl) (gF (d0 := 53) rfl rfl (by rw [hb6]; rfl) (pv (r_pkf rfl hb6 rfl) (pv (r_mb rfl) (gF (d0 := 60) rfl rfl rfl (gF (d0 := 60) rfl rfl rfl (gF (d0 := 60) rfl rfl rfl (gF (d0 := 60) rfl rfl rfl (gF (d0 := 60) rfl rfl rfl (pv (r_pkf rfl rfl rfl) (nil (t_thenR [(0, .string ⟨p0.toArray⟩), (1, iv p1), (66, .bool false)] ⟨rfl, rfl, rfl, trivial⟩ fun J => ?_))))))))))))))
      refine cnd (b := false) rfl (fun h => nomatch h) (fun _ => ?_)
      refine skp (t_then ?_)
      refine sq2 (rg (pv (r_zi rfl) (pv (r_zi rfl) (nil (t_then ?_)))))
      have hm := oI hm; subst hm
      exact rtn (retN (vs := [.int .u32 0, iv 0]) rfl ⟨rfl, rfl, trivial⟩ rfl ⟨_, rfl, _, im1, ⟨rfl, hS1.sel [0] rfl, trivial⟩⟩)
    have hm := cfalse hb5 hm
    refine gF (d0 := 46) rfl rfl (by rw [hb5]; rfl) (gF (d0 := 46) rfl rfl (by rw [hb5]; rfl) (gF (d0 := 46) rfl rfl (by rw [hb5]; rfl) (gF (d0 := 46) rfl rfl (by rw [hb5]; rfl) (gF (d0 := 46) rfl rfl (by rw [hb5]; rfl) (pv (r_pkf rfl hb5 rfl) (pv (r_mb rfl) (gF (d0 := 53) rfl rfl rfl (gF (d0 := 53) rfl rfl rfl (gF (d0 := 53) rfl rfl rfl (gF (d0 := 53) rfl rfl rfl (gF (d0 := 53) rfl rfl rfl (pv (r_pkf rfl rfl rfl) (pv (r_mb rfl) (gF (d0 := 60) rfl rfl rfl (gF (d0 := 60) rfl rfl rfl (gF (d0 := 60) rfl rfl rfl (gF (d0 := 60) rfl rfl rfl (gF (d0 := 60) rfl rfl rfl (pv (r_pkf rfl rfl rfl) (nil (t_thenR [(0, .string ⟨p0.toArray⟩), (1, iv p1), (66, .bool false)] ⟨rfl, rfl, rfl, trivial⟩ fun J => ?_)))))))))))))))))))))
    refine cnd (b := false) rfl (fun h => nomatch h) (fun _ => ?_)
    refine skp (t_then ?_)
    refine sq2 (rg (pv (r_zi rfl) (pv (r_zi rfl) (nil (t_then ?_)))))
    have hm := oI hm; subst hm
    exact rtn (retN (vs := [.int .u32 0, iv 0]) rfl ⟨rfl, rfl, trivial⟩ rfl ⟨_, rfl, _, im1, ⟨rfl, hS1.sel [0] rfl, trivial⟩⟩)
  have hm := cfalse hb4 hm
  refine gF (d0 := 39) rfl rfl (by rw [hb4]; rfl) (gF (d0 := 39) rfl rfl (by rw [hb4]; rfl) (gF (d0 := 39) rfl rfl (by rw [hb4]; rfl) (gF (d0 := 39) rfl rfl (by rw [hb4]; rfl) (gF (d0 := 39) rfl rfl (by rw [hb4]; rfl) (pv (r_pkf rfl hb4 rfl) (pv (r_mb rfl) (gF (d0 := 46) rfl rfl rfl (gF (d0 := 46) rfl rfl rfl (gF (d0 := 46) rfl rfl rfl (gF (d0 := 46) rfl rfl rfl (gF (d0 := 46) rfl rfl rfl (pv (r_pkf rfl rfl rfl) (pv (r_mb rfl) (gF (d0 := 53) rfl rfl rfl (gF (d0 := 53) rfl rfl rfl (gF (d0 := 53) rfl rfl rfl (gF (d0 := 53) rfl rfl rfl (gF (d0 := 53) rfl rfl rfl (pv (r_pkf rfl rfl rfl) (pv (r_mb rfl) (gF (d0 := 60) rfl rfl rfl (gF (d0 := 60) rfl rfl rfl (gF (d0 := 60) rfl rfl rfl (gF (d0 := 60) rfl rfl rfl (gF (d0 := 60) rfl rfl rfl (pv (r_pkf rfl rfl rfl) (nil (t_thenR [(0, .string ⟨p0.toArray⟩), (1, iv p1), (66, .bool false)] ⟨rfl, rfl, rfl, trivial⟩ fun J => ?_))))))))))))))))))))))))))))
  refine cnd (b := false) rfl (fun h => nomatch h) (fun _ => ?_)
  refine skp (t_then ?_)
  refine sq2 (rg (pv (r_zi rfl) (pv (r_zi rfl) (nil (t_then ?_)))))
  have hm := oI hm; subst hm
  exact rtn (retN (vs := [.int .u32 0, iv 0]) rfl ⟨rfl, rfl, trivial⟩ rfl ⟨_, rfl, _, im1, ⟨rfl, hS1.sel [0] rfl, trivial⟩⟩)

theorem ref07_mark_sim {p0 : List UInt8} {p1 : Int} {r : (List UInt8)} (hS : Sep g T0 w0 [R])  (hm : ref07_mark p0 p1 = some r) :
    Calls Tryz.prog 39 #[.string ⟨p0.toArray⟩, iv p1] w0 (RetS T0 w0 fun T w v => v = .string ⟨r.toArray⟩ ∧ Sep g T w [R] ∧ True) := by
  refine enter (args := [.string ⟨p0.toArray⟩, iv p1]) Tryz.func39 rfl Tryz.ntmps39 rfl fun J => ?_
  unfold ref07_mark at hm
  refine sq2 (rg (pv (r_zt rfl) (nil (t_then ?_))))
  refine sq2 (rg (wl rfl (bsS (r := rStr) (l := tbl2) (css := (List.map (fun x => [.string ⟨x.toArray⟩]) tbl2)) hS underlying153 sizeOf9 zeroValue9 rfl rfl (by kernel_rfl) rfl (allR_map fun _ => rfl) rfl rfl fun w1 a1 n1 c1 im1 hS1 => ?_)))
  refine pv (r_zs rfl) (nil (t_then ?_))
  refine sq2 (rg (pv (r_zt rfl) (nil (t_then ?_))))
  refine sq2 (sq2 (rg (pv (r_zi rfl) (nil (t_then ?_)))))
  obtain ⟨o1, ho1, hq1⟩ := bindS hm
  obtain ⟨bd1, hbd1, ho1⟩ := loop_open ho1
  refine blk (wp_loop_ghost (fun m a w2 => ∃ (J : JV) (T1 : TP) (x1 : List UInt8) (x2 : Int), a = env (nf 37) J [(0, .string ⟨p0.toArray⟩), (1, iv p1), (5, .slice a1 n1 c1), (6, .string ⟨x1.toArray⟩), (7, iv x2)] ∧ Im T0 w1 T1 w2 ∧ Sep g T1 w2 [ownA rStr 9 (.slice a1 n1 c1) tbl2, R] ∧ loopM bd1 m (x1, x2) = some o1) NN ⟨_, _, ([] : List UInt8), 0, env_has ⟨rfl, rfl, rfl, rfl, rfl, trivial⟩, Im.refl, hS1.sel [0, 1] rfl, ho1⟩ ?_)
  rintro m _ w2 ⟨J, T1, x1, x2, rfl, im2, hS2, ho1⟩
  obtain ⟨m1, z1, rfl, hm, hn1⟩ := loop_round ho1
  rw [hbd1] at hm
  refine sq2 (sq2 (rg (pv (r_mi rfl) (pv (r_ms rfl) (pv (r_lnV rfl (hS2.own (i := 0) ⟨rfl, rfl⟩).v underlying153) (pv (r_ib rfl rfl rfl) (nil (t_then ?_))))))))
  refine cnd rfl (fun hb1 => ?_) (fun hb1 => ?_)
  · have hm := ctrue hb1 hm
    refine skp (t_then ?_)
    obtain ⟨kk1, hkk1, hm⟩ := jn_open hm
    refine cut (fun a w3 => ∃ (J : JV) (T2 : TP) (x3 : List UInt8), a = env (nf 37) J [(0, .string ⟨p0.toArray⟩), (1, iv p1), (5, .slice a1 n1 c1), (6, .string ⟨x3.toArray⟩), (7, iv x2)] ∧ Im T1 w2 T2 w3 ∧ Sep g T2 w3 [ownA rStr 9 (.slice a1 n1 c1) tbl2, R] ∧ kk1 x3 = some z1) ?_ ?_
    · refine blk (sq2 ?_)
      obtain ⟨u1, hx1, hm⟩ := bindS hm
      obtain ⟨b1, of1, cs1, k1, cp1, hv1, hp1, hl1, he1, hr1, hc1⟩ := (hS2.own (i := 0) ⟨rfl, rfl⟩).v.ixq hx1 rfl
      cases hr1
      obtain ⟨y1, hx2, hm⟩ := bindS hm
      refine rg (pv (r_mt rfl) (pv (r_mi rfl) (pv (r_ms rfl) (pv (r_mi rfl) (pv (r_ixe hv1 rfl underlying153 sizeOf9 hp1 hl1 he1) (pv (r_ld rfl isAgg9 (hc1.get (j := 0) rfl)) (wl rfl (calS cf32 rfl (ref07_is_sim (p0 := p0) (p1 := p1) (p2 := u1) (hS2.bun [0, 1] [] rfl)  hx2) rfl fun v1 T3 w4 im4 rv1 => ?_))))))))
      obtain ⟨rfl, hS3, _⟩ := rv1
      have hS3 := hS3.unb
      refine pv (r_mb rfl) (?_)
      rcases Bool.eq_false_or_eq_true y1 with hb2 | hb2
      · have hm := ctrue hb2 hm
        obtain ⟨u2, hx3, hm⟩ := bindS hm
        obtain ⟨b2, of2, cs2, k2, cp2, hv2, hp2, hl2, he2, hr2, hc2⟩ := (hS3.own (i := 0) ⟨rfl, rfl⟩).v.ixq hx3 rfl
        cases hr2
        refine gT (d0 := 22) rfl rfl hb2 (pv (r_ms rfl) (gT (d0 := 22) rfl rfl hb2 (pv (r_mi rfl) (gT (d0 := 22) rfl rfl hb2 (pv (r_ixe hv2 rfl underlying153 sizeOf9 hp2 hl2 he2) (gT (d0 := 22) rfl rfl hb2 (pv (r_ld rfl isAgg9 (hc2.get (j := 0) rfl)) (gT (d0 := 22) rfl rfl hb2 (pv (r_lnt rfl underlying9) (gT (d0 := 22) rfl rfl hb2 (pv (r_mt rfl) (gT (d0 := 22) rfl rfl hb2 (pv (r_lnt rfl underlying9) (gT (d0 := 22) rfl rfl hb2 (pv (r_ib rfl rfl rfl) (pv (r_pkt rfl hb2 rfl) (nil (t_then ?_))))))))))))))))))
        refine cnd rfl (fun hb3 => ?_) (fun hb3 => ?_)
        · have hm := ctrue hb3 hm
          obtain ⟨u3, hx4, hm⟩ := bindS hm
          obtain ⟨b3, of3, cs3, k3, cp3, hv3, hp3, hl3, he3, hr3, hc3⟩ := (hS3.own (i := 0) ⟨rfl, rfl⟩).v.ixq hx4 rfl
          cases hr3
          exact rg (pv (r_ms rfl) (pv (r_mi rfl) (pv (r_ixe hv3 rfl underlying153 sizeOf9 hp3 hl3 he3) (pv (r_ld rfl isAgg9 (hc3.get (j := 0) rfl)) (pv (r_zt rfl) (nil (t_blk (t_then ⟨_, _, u3, env_has ⟨rfl, rfl, rfl, rfl, rfl, trivial⟩, im4, hS3.sel [0, 1] rfl, hm⟩))))))))
        have hm := cfalse hb3 hm
        exact skp (t_blk (t_then ⟨_, _, x1, env_has ⟨rfl, rfl, rfl, rfl, rfl, trivial⟩, im4, hS3.sel [0, 1] rfl, hm⟩))
      have hm := cfalse hb2 hm
      refine gF (d0 := 22) rfl rfl (by rw [hb2]; rfl) (gF (d0 := 22) rfl rfl (by rw [hb2]; rfl) (gF (d0 := 22) rfl rfl (by rw [hb2]; rfl) (gF (d0 := 22) rfl rfl (by rw [hb2]; rfl) (gF (d0 := 22) rfl rfl (by rw [hb2]; rfl) (gF (d0 := 22) rfl rfl (by rw [hb2]; rfl) (gF (d0 := 22) rfl rfl (by rw [hb2]; rfl) (gF (d0 := 22) rfl rfl (by rw [hb2]; rfl) (pv (r_pkf rfl hb2 rfl) (nil (t_then ?_))))))))))
      refine cnd (b := false) rfl (fun h => nomatch h) (fun _ => ?_)
      exact skp (t_blk (t_then ⟨_, _, x1, env_has ⟨rfl, rfl, rfl, rfl, rfl, trivial⟩, im4, hS3.sel [0, 1] rfl, hm⟩))
    rintro _ w3 ⟨J, T2, x3, rfl, im3, hS4, hm⟩
    rw [hkk1] at hm
    have hm := oI hm; subst hm
    exact rg (pv (r_mi rfl) (pv (r_ib rfl rfl rfl) (pv (r_zi rfl) (nil (t_then ⟨m1, Nat.lt_succ_self _, _, _, x3, (IntKind.wrap .i64 (x2 + 1)), env_has ⟨rfl, rfl, rfl, rfl, rfl, trivial⟩, (iT im2 im3), hS4.sel [0, 1] rfl, hn1⟩)))))
  have hm := cfalse hb1 hm
  have hm := oI hm; subst hm
  have hn1 : _ = Lp.brk _ := hn1
  subst hn1
  have hm := thn_brk hq1
  refine xt (x_then (x_then (x_eq (t_then ?_))))
  refine sq2 (rg (pv (r_mt rfl) (pv (r_zt rfl) (nil (t_then ?_)))))
  have hm := oI hm; subst hm
  exact rtn (ret1 rfl rfl ⟨_, rfl, _, (iT im1 im2), ⟨rfl, hS2.sel [1] rfl, trivial⟩⟩)

theorem ref07_One_sim {p0 : List UInt8} {p1 : Int} {r : ref07Token × Int} (hS : Sep g T0 w0 [R])  (hm : ref07_One p0 p1 = some r) :
    Calls Tryz.prog 14 #[.string ⟨p0.toArray⟩, iv p1] w0 (RetS T0 w0 fun T w v => v = .tuple #[.agg (cref07Token r.1).toArray, iv r.2] ∧ Sep g T w [R] ∧ True) := by
  refine enter (args := [.string ⟨p0.toArray⟩, iv p1]) Tryz.func14 rfl Tryz.ntmps14 rfl fun J => ?_
  unfold ref07_One at hm
  refine sq2 (rg (wl rfl (alS (zs := [iv 0, .string ⟨([] : List UInt8).toArray⟩, .int .u32 0, iv 0]) zeroValue71 rfl hS fun w1 b1 im1 hS1 => ?_)))
  refine pv (r_zi rfl) (nil (t_then ?_))
  refine sq2 ?_
  obtain ⟨u1, hx1, hm⟩ := bindS hm
  refine rg (pv (r_mt rfl) (pv (r_mi rfl) (pv (r_sx rfl rfl hx1 underlying9) (pv (r_zi rfl) (nil (t_then ?_))))))
  refine sq2 (sq2 ?_)
  obtain ⟨y1, hx2, hm⟩ := bindS hm
  refine rg (pv (r_mi rfl) (wl rfl (calS cf33 rfl (ref07_Letter_sim (p0 := (UInt8.toNat u1 : Int)) (hS1.bun [0, 1] [] rfl)  hx2) rfl fun v1 T1 w2 im2 rv1 => ?_)))
  obtain ⟨rfl, hS2, _⟩ := rv1
  have hS2 := hS2.unb
  refine nil (t_then ?_)
  refine cnd rfl (fun hb1 => ?_) (fun hb1 => ?_)
  · have hm := ctrue hb1 hm
    refine sq2 ?_
    obtain ⟨y2, hx3, hm⟩ := bindS hm
    refine rg (pv (r_mt rfl) (pv (r_mi rfl) (wl rfl (calS cf34 rfl (ref07_run_sim (p0 := p0) (p1 := p1) (hS2.bun [0, 1] [] rfl)  hx3) rfl fun v2 T2 w3 im3 rv2 => ?_))))
    obtain ⟨rfl, hS3, _⟩ := rv2
    have hS3 := hS3.unb
    refine pv (r_zi rfl) (nil (t_then ?_))
    refine sq2 (sq2 (rg (pv (r_mi rfl) (pv (r_ib rfl rfl rfl) (nil (t_then ?_))))))
    refine cnd rfl (fun hb2 => ?_) (fun hb2 => ?_)
    · have hm := ctrue hb2 hm
      refine sq2 (rg (pv (r_bd (by kernel_rfl) rfl (u := .agg #[iv 0, .string ⟨([] : List UInt8).toArray⟩, .int .u32 0, iv 0])) (wl rfl (st0B (q := 0) hS3 ⟨rfl, rfl⟩ rfl rfl rfl sizeOf71 rfl rfl rfl fun w4 im4 hS4 => ?_))))
      refine pv (r_zi rfl) (nil (t_then ?_))
      have hm := oI hm; subst hm
      exact rtn (r_then (r_then (retN (vs := [.agg #[iv 0, .string ⟨([] : List UInt8).toArray⟩, .int .u32 0, iv 0], iv 2]) rfl ⟨rvS rfl isAgg71 sizeOf71 rfl (hS4.bx (i := 0) ⟨rfl, rfl⟩), rfl, trivial⟩ rfl ⟨_, rfl, _, (iT im1 (iT im2 (iT im3 im4))), ⟨rfl, hS4.sel [1] rfl, trivial⟩⟩)))
    have hm := cfalse hb2 hm
    refine skp (t_then ?_)
    refine sq2 ?_
    obtain ⟨u2, hx4, hm⟩ := bindS hm
    refine rg (pv (r_mt rfl) (pv (r_mi rfl) (pv (r_mi rfl) (pv (r_mi rfl) (pv (r_ib rfl rfl rfl) (pv (r_ss rfl ⟨_, rfl⟩ ⟨_, rfl⟩ hx4 underlying9) (pv (r_mi rfl) (pv (r_bd (by kernel_rfl) rfl (u := .agg #[iv 1, .string ⟨u2.toArray⟩, .int .u32 0, iv p1])) (wl rfl (alS (zs := [iv 0, .string ⟨([] : List UInt8).toArray⟩, .int .u32 0, iv 0]) zeroValue71 rfl hS3 fun w5 b2 im5 hS5 => ?_))))))))))
    refine wl rfl (st0B (q := 0) hS5 ⟨rfl, rfl⟩ rfl rfl rfl sizeOf71 rfl rfl rfl fun w6 im6 hS6 => ?_)
    refine nil (t_then ?_)
    obtain ⟨kk1, hkk1, hm⟩ := jn_open hm
    refine cut (fun a w7 => ∃ (J : JV) (T3 : TP) (x1 : ref07Token), a = env (nf 91) J [(4, pt b1 0), (8, pt b2 0)] ∧ Im T2 w6 T3 w7 ∧ Sep g T3 w7 [boxA b2 (cref07Token x1), boxA b1 [iv 0, .string ⟨([] : List UInt8).toArray⟩, .int .u32 0, iv 0], R] ∧ kk1 x1 = some r) ?_ ?_
    · refine sq2 ?_
      obtain ⟨y3, hx5, hm⟩ := bindS hm
      refine rg (pv (r_fa rfl underlying71 rfl sizeOf9 rfl) (pv (r_ld rfl isAgg9 (hS6.cell0 (i := 0) ⟨rfl, rfl⟩ (j := 1) rfl)) (wl rfl (calS cf35 rfl (ref07_Word_sim (p0 := u2) (hS6.bun [0, 1, 2] [] rfl)  hx5) rfl fun v3 T4 w8 im8 rv3 => ?_))))
      obtain ⟨rfl, hS7, _⟩ := rv3
      have hS7 := hS7.unb
      refine nil (t_thenR [(4, pt b1 0), (8, pt b2 0), (36, .bool y3)] ⟨rfl, rfl, rfl, trivial⟩ fun J => ?_)
      refine cnd rfl (fun hb3 => ?_) (fun hb3 => ?_)
      · have hm := ctrue hb3 hm
        refine rg (pv (r_fa rfl underlying71 rfl sizeOf3 rfl) (wl rfl (st0B (q := 0) hS7 ⟨rfl, rfl⟩ rfl rfl rfl sizeOf3 rfl rfl rfl fun w9 im9 hS8 => ?_)))
        exact nil (t_then ⟨_, _, (⟨2, u2, 0, p1⟩ : ref07Token), env_has ⟨rfl, rfl, trivial⟩, (iT im8 im9), hS8.sel [0, 1, 2] rfl, hm⟩)
      have hm := cfalse hb3 hm
      exact skp (t_then ⟨_, _, (⟨1, u2, 0, p1⟩ : ref07Token), env_has ⟨rfl, rfl, trivial⟩, im8, hS7.sel [0, 1, 2] rfl, hm⟩)
    rintro _ w7 ⟨J, T3, x1, rfl, im7, hS9, hm⟩
    rw [hkk1] at hm
    refine sq2 (rg (pv (r_ldS rfl isAgg71 sizeOf71 rfl (hS9.cells0 (i := 0) ⟨rfl, rfl⟩ (o := 0) rfl) (cs := (cref07Token x1))) (wl rfl (st0B (q := 1) hS9 ⟨rfl, rfl⟩ rfl rfl rfl sizeOf71 rfl rfl rfl fun w10 im10 hS10 => ?_))))
    refine pv (r_zi rfl) (nil (t_then ?_))
    have hm := oI hm; subst hm
    exact rtn (r_then (retN (vs := [.agg (cref07Token x1).toArray, iv 0]) rfl ⟨rvS rfl isAgg71 sizeOf71 rfl (hS10.bx (i := 1) ⟨rfl, rfl⟩), rfl, trivial⟩ rfl ⟨_, rfl, _, (iT im1 (iT im2 (iT im3 (iT im5 (iT im6 (iT im7 im10)))))), ⟨rfl, hS10.sel [2] rfl, trivial⟩⟩))
  have hm := cfalse hb1 hm
  refine skp (t_then ?_)
  refine sq2 (sq2 ?_)
  obtain ⟨y4, hx6, hm⟩ := bindS hm
  refine rg (pv (r_mi rfl) (wl rfl (calS cf36 rfl (ref07_Digit_sim (p0 := (UInt8.toNat u1 : Int)) (hS2.bun [0, 1] [] rfl)  hx6) rfl fun v4 T5 w11 im11 rv4 => ?_)))
  obtain ⟨rfl, hS11, _⟩ := rv4
  have hS11 := hS11.unb
  refine nil (t_then ?_)
  refine cnd rfl (fun hb4 => ?_) (fun hb4 => ?_)
  · have hm := ctrue hb4 hm
    refine sq2 ?_
    obtain ⟨y5, hx7, hm⟩ := bindS hm
    refine rg (pv (r_mt rfl) (pv (r_mi rfl) (pv (r_mi rfl) (pv (r_mt rfl) (pv (r_mi rfl) (wl rfl (calS cf34 rfl (ref07_run_sim (p0 := p0) (p1 := p1) (hS11.bun [0, 1] [] rfl)  hx7) rfl fun v5 T6 w12 im12 rv5 => ?_)))))))
    obtain ⟨rfl, hS12, _⟩ := rv5
    have hS12 := hS12.unb
    obtain ⟨u3, hx8, hm⟩ := bindS hm
    refine pv (r_ib rfl rfl rfl) (pv (r_ss rfl ⟨_, rfl⟩ ⟨_, rfl⟩ hx8 underlying9) (pv (r_zt rfl) (nil (t_then ?_))))
    refine sq2 ?_
    obtain ⟨y6, hx9, hm⟩ := bindS hm
    refine rg (pv (r_mt rfl) (wl rfl (calS cf37 rfl (ref07_number_sim (p0 := u3) (hS12.bun [0, 1] [] rfl)  hx9) rfl fun v6 T7 w13 im13 rv6 => ?_)))
    obtain ⟨rfl, hS13, _⟩ := rv6
    have hS13 := hS13.unb
    refine pv (r_mv rfl) (pv (r_ex (v := .int .u32 y6.1) rfl rfl) (pv (r_ex (v := iv y6.2) rfl rfl) (pv (r_zi rfl) (pv (r_zi rfl) (nil (t_then ?_))))))
    refine sq2 (sq2 (rg (pv (r_mi rfl) (pv (r_ib rfl rfl rfl) (nil (t_then ?_))))))
    refine cnd rfl (fun hb5 => ?_) (fun hb5 => ?_)
    · have hm := ctrue hb5 hm
      refine sq2 (rg (pv (r_bd (by kernel_rfl) rfl (u := .agg #[iv 0, .string ⟨([] : List UInt8).toArray⟩, .int .u32 0, iv 0])) (pv (r_mi rfl) (wl rfl (st0B (q := 0) hS13 ⟨rfl, rfl⟩ rfl rfl rfl sizeOf71 rfl rfl rfl fun w14 im14 hS14 => ?_)))))
      refine pv (r_zi rfl) (nil (t_thenR [(4, pt b1 0), (5, iv y6.2)] ⟨rfl, rfl, trivial⟩ fun J => ?_))
      have hm := oI hm; subst hm
      exact rtn (r_then (r_then (retN (vs := [.agg #[iv 0, .string ⟨([] : List UInt8).toArray⟩, .int .u32 0, iv 0], iv y6.2]) rfl ⟨rvS rfl isAgg71 sizeOf71 rfl (hS14.bx (i := 0) ⟨rfl, rfl⟩), rfl, trivial⟩ rfl ⟨_, rfl, _, (iT im1 (iT im2 (iT im11 (iT im12 (iT im13 im14))))), ⟨rfl, hS14.sel [1] rfl, trivial⟩⟩)))
    have hm := cfalse hb5 hm
    refine skp (t_thenR [(1, iv p1), (4, pt b1 0), (9, .string ⟨u3.toArray⟩), (10, .int .u32 y6.1)] ⟨rfl, rfl, rfl, rfl, trivial⟩ fun J => ?_)
    refine sq2 (rg (pv (r_mt rfl) (pv (r_mi rfl) (pv (r_mi rfl) (pv (r_bd (by kernel_rfl) rfl (u := .agg #[iv 3, .string ⟨u3.toArray⟩, .int .u32 y6.1, iv p1])) (wl rfl (st0B (q := 0) hS13 ⟨rfl, rfl⟩ rfl rfl rfl sizeOf71 rfl rfl rfl fun w15 im15 hS15 => ?_)))))))
    refine pv (r_zi rfl) (nil (t_then ?_))
    have hm := oI hm; subst hm
    exact rtn (r_then (retN (vs := [.agg #[iv 3, .string ⟨u3.toArray⟩, .int .u32 y6.1, iv p1], iv 0]) rfl ⟨rvS rfl isAgg71 sizeOf71 rfl (hS15.bx (i := 0) ⟨rfl, rfl⟩), rfl, trivial⟩ rfl ⟨_, rfl, _, (iT im1 (iT im2 (iT im11 (iT im12 (iT im13 im15))))), ⟨rfl, hS15.sel [1] rfl, trivial⟩⟩))
  have hm := cfalse hb4 hm
  refine skp (t_then ?_)
  refine sq2 (sq2 (rg (pv (r_mi rfl) (pv (r_ib rfl rfl rfl) (nil (t_then ?_))))))
  refine cnd rfl (fun hb6 => ?_) (fun hb6 => ?_)
  · have hm := ctrue hb6 hm
    refine sq2 ?_
    obtain ⟨y7, hx10, hm⟩ := bindS hm
    refine rg (pv (r_mt rfl) (pv (r_mi rfl) (wl rfl (calS cf38 rfl (ref07_quoted_sim (p0 := p0) (p1 := p1) (hS11.bun [0, 1] [] rfl)  hx10) rfl fun v7 T8 w16 im16 rv7 => ?_))))
    obtain ⟨rfl, hS16, _⟩ := rv7
    have hS16 := hS16.unb
    refine pv (r_mv rfl) (pv (r_ex (v := .int .u32 y7.1) rfl rfl) (pv (r_ex (v := iv y7.2) rfl rfl) (pv (r_zi rfl) (pv (r_zi rfl) (nil (t_then ?_))))))
    refine sq2 (sq2 (rg (pv (r_mi rfl) (pv (r_ib rfl rfl rfl) (nil (t_then ?_))))))
    refine cnd rfl (fun hb7 => ?_) (fun hb7 => ?_)
    · have hm := ctrue hb7 hm
      refine sq2 (rg (pv (r_bd (by kernel_rfl) rfl (u := .agg #[iv 0, .string ⟨([] : List UInt8).toArray⟩, .int .u32 0, iv 0])) (wl rfl (st0B (q := 0) hS16 ⟨rfl, rfl⟩ rfl rfl rfl sizeOf71 rfl rfl rfl fun w17 im17 hS17 => ?_))))
      refine pv (r_zi rfl) (nil (t_then ?_))
      have hm := oI hm; subst hm
      exact rtn (r_then (r_then (retN (vs := [.agg #[iv 0, .string ⟨([] : List UInt8).toArray⟩, .int .u32 0, iv 0], iv 3]) rfl ⟨rvS rfl isAgg71 sizeOf71 rfl (hS17.bx (i := 0) ⟨rfl, rfl⟩), rfl, trivial⟩ rfl ⟨_, rfl, _, (iT im1 (iT im2 (iT im11 (iT im16 im17)))), ⟨rfl, hS17.sel [1] rfl, trivial⟩⟩)))
    have hm := cfalse hb7 hm
    refine skp (t_then ?_)
    refine sq2 ?_
    obtain ⟨u4, hx11, hm⟩ := bindS hm
    refine rg (pv (r_mt rfl) (pv (r_mi rfl) (pv (r_mi rfl) (pv (r_mi rfl) (pv (r_ib rfl rfl rfl) (pv (r_ss rfl ⟨_, rfl⟩ ⟨_, rfl⟩ hx11 underlying9) (pv (r_mi rfl) (pv (r_mi rfl) (pv (r_bd (by kernel_rfl) rfl (u := .agg #[iv 3, .string ⟨u4.toArray⟩, .int .u32 y7.1, iv p1])) (wl rfl (st0B (q := 0) hS16 ⟨rfl, rfl⟩ rfl rfl rfl sizeOf71 rfl rfl rfl fun w18 im18 hS18 => ?_)))))))))))
    refine pv (r_zi rfl) (nil (t_thenR [(4, pt b1 0), (5, iv 0)] ⟨rfl, rfl, trivial⟩ fun J => ?_))
    have hm := oI hm; subst hm
    exact rtn (r_then (retN (vs := [.agg #[iv 3, .string ⟨u4.toArray⟩, .int .u32 y7.1, iv p1], iv 0]) rfl ⟨rvS rfl isAgg71 sizeOf71 rfl (hS18.bx (i := 0) ⟨rfl, rfl⟩), rfl, trivial⟩ rfl ⟨_, rfl, _, (iT im1 (iT im2 (iT im11 (iT im16 im18)))), ⟨rfl, hS18.sel [1] rfl, trivial⟩⟩))
  have hm := cfalse hb6 hm
  refine skp (t_then ?_)
  refine sq2 ?_
  obtain ⟨y8, hx12, hm⟩ := bindS hm
  refine rg (pv (r_mt rfl) (pv (r_mi rfl) (wl rfl (calS cf39 rfl (ref07_mark_sim (p0 := p0) (p1 := p1) (hS11.bun [0, 1] [] rfl)  hx12) rfl fun v8 T9 w19 im19 rv8 => ?_))))
  obtain ⟨rfl, hS19, _⟩ := rv8
  have hS19 := hS19.unb
  refine pv (r_zt rfl) (nil (t_then ?_))
  refine sq2 (sq2 (rg (pv (r_mt rfl) (pv (r_sqL rfl rfl) (nil (t_then ?_))))))
  refine cnd rfl (fun hb8 => ?_) (fun hb8 => ?_)
  · have hm := ctrue hb8 hm
    refine sq2 (rg (pv (r_bd (by kernel_rfl) rfl (u := .agg #[iv 0, .string ⟨([] : List UInt8).toArray⟩, .int .u32 0, iv 0])) (wl rfl (st0B (q := 0) hS19 ⟨rfl, rfl⟩ rfl rfl rfl sizeOf71 rfl rfl rfl fun w20 im20 hS20 => ?_))))
    refine pv (r_zi rfl) (nil (t_then ?_))
    have hm := oI hm; subst hm
    exact rtn (r_then (retN (vs := [.agg #[iv 0, .string ⟨([] : List UInt8).toArray⟩, .int .u32 0, iv 0], iv 3]) rfl ⟨rvS rfl isAgg71 sizeOf71 rfl (hS20.bx (i := 0) ⟨rfl, rfl⟩), rfl, trivial⟩ rfl ⟨_, rfl, _, (iT im1 (iT im2 (iT im11 (iT im19 im20)))), ⟨rfl, hS20.sel [1] rfl, trivial⟩⟩))
  have hm := cfalse hb8 hm
  refine skp (t_then ?_)
  refine sq2 (rg (pv (r_mt rfl) (pv (r_mi rfl) (pv (r_bd (by kernel_rfl) rfl (u := .agg #[iv 4, .string ⟨y8.toArray⟩, .int .u32 0, iv p1])) (wl rfl (st0B (q := 0) hS19 ⟨rfl, rfl⟩ rfl rfl rfl sizeOf71 rfl rfl rfl fun w21 im21 hS21 => ?_))))))
  refine pv (r_zi rfl) (nil (t_then ?_))
  have hm := oI hm; subst hm
  exact rtn (retN (vs := [.agg #[iv 4, .string ⟨y8.toArray⟩, .int .u32 0, iv p1], iv 0]) rfl ⟨rvS rfl isAgg71 sizeOf71 rfl (hS21.bx (i := 0) ⟨rfl, rfl⟩), rfl, trivial⟩ rfl ⟨_, rfl, _, (iT im1 (iT im2 (iT im11 (iT im19 im21)))), ⟨rfl, hS21.sel [1] rfl, trivial⟩⟩)

theorem ref07_Lex_sim {p0 : List UInt8} {r : ref07Lexed} (hS : Sep g T0 w0 [R])  (hm : ref07_Lex p0 = some r) :
    Calls Tryz.prog 7 #[.string ⟨p0.toArray⟩] w0 (RetS T0 w0 fun T w v => ∃ (a4 : OA) (c4 : Nat), v = .agg #[sv a4 r.L c4, iv r.At, iv r.E] ∧ Sep g T w [R] ∧ SlR rref07Token T w (sv a4 r.L c4) r.L ∧ True) := by
  refine enter (args := [.string ⟨p0.toArray⟩]) Tryz.func7 rfl Tryz.ntmps7 rfl fun J => ?_
  unfold ref07_Lex at hm
  refine sq2 (rg (wl rfl (alS (zs := [.slice none 0 0, iv 0, iv 0]) zeroValue34 rfl hS fun w1 b1 im1 hS1 => ?_)))
  refine nil (t_then ?_)
  refine sq2 (sq2 (rg (pv (r_mt rfl) (pv (r_lnt rfl underlying9) (pv (r_ib rfl rfl rfl) (nil (t_then ?_)))))))
  refine cnd rfl (fun hb1 => ?_) (fun hb1 => ?_)
  · have hm := ctrue hb1 hm
    refine sq2 (rg (pv (r_bd (by kernel_rfl) rfl (u := .agg #[.slice none 0 0, iv 0, iv 2])) (wl rfl (st0B (q := 0) hS1 ⟨rfl, rfl⟩ rfl rfl rfl sizeOf34 rfl rfl rfl fun w2 im2 hS2 => ?_))))
    refine nil (t_then ?_)
    have hm := oI hm; subst hm
    exact rtn (r_then (retN (vs := [.agg #[.slice none 0 0, iv 0, iv 2]]) rfl ⟨rvS rfl isAgg34 sizeOf34 rfl (hS2.bx (i := 0) ⟨rfl, rfl⟩), trivial⟩ rfl ⟨_, rfl, _, (iT im1 im2), ⟨_, _, rfl, hS2.sel [1] rfl, SlR_nil, trivial⟩⟩))
  have hm := cfalse hb1 hm
  refine skp (t_then ?_)
  refine sq2 (rg (wl rfl (alS (zs := [.slice none 0 0, iv 0, iv 0]) zeroValue34 rfl hS1 fun w3 b2 im3 hS3 => ?_)))
  refine nil (t_then ?_)
  refine sq2 ?_
  obtain ⟨o1, ho1, hq1⟩ := bindS hm
  obtain ⟨bd1, hbd1, ho1⟩ := loop_open ho1
  have hS4 := hS3.nilO rref07Token 71
  refine blk (wp_loop_ghost (fun m a w4 => ∃ (J : JV) (T1 : TP) (x2 : ref07Lexed) (a1 : OA) (n1 : Nat) (c1 : Nat), a = env (nf 59) J [(0, .string ⟨p0.toArray⟩), (2, pt b1 0), (3, pt b2 0)] ∧ Im T0 w3 T1 w4 ∧ Sep g T1 w4 [ownA rref07Token 71 (.slice a1 n1 c1) x2.L, boxA b2 [.slice a1 n1 c1, iv x2.At, iv x2.E], boxA b1 [.slice none 0 0, iv 0, iv 0], R] ∧ loopM bd1 m x2 = some o1) NN ⟨_, _, (⟨[], 0, 0⟩ : ref07Lexed), _, _, _, env_has ⟨rfl, rfl, rfl, trivial⟩, Im.refl, hS4.sel [0, 1, 2, 3] rfl, ho1⟩ ?_)
  rintro m _ w4 ⟨J, T1, x2, a1, n1, c1, rfl, im4, hS5, ho1⟩
  obtain ⟨m1, z1, rfl, hm, hn1⟩ := loop_round ho1
  rw [hbd1] at hm
  refine sq2 (sq2 (rg (pv (r_fa rfl underlying34 rfl sizeOf3 rfl) (pv (r_ld rfl isAgg3 (hS5.cell0 (i := 1) ⟨rfl, rfl⟩ (j := 1) rfl)) (pv (r_mt rfl) (pv (r_lnt rfl underlying9) (pv (r_ib rfl rfl rfl) (nil (t_then ?_)))))))))
  refine cnd rfl (fun hb2 => ?_) (fun hb2 => ?_)
  · have hm := ctrue hb2 hm
    refine skp (t_then ?_)
    refine blk (sq2 ?_)
    obtain ⟨y1, hx1, hm⟩ := bindS hm
    refine rg (pv (r_mt rfl) (pv (r_fa rfl underlying34 rfl sizeOf3 rfl) (pv (r_ld rfl isAgg3 (hS5.cell0 (i := 1) ⟨rfl, rfl⟩ (j := 1) rfl)) (wl rfl (calS cf13 rfl (ref07_Blank_sim (p0 := p0) (p1 := x2.At) (hS5.bun [0, 1, 2, 3] [] rfl)  hx1) rfl fun v1 T2 w5 im5 rv1 => ?_)))))
    obtain ⟨rfl, hS6, _⟩ := rv1
    have hS6 := hS6.unb
    refine pv (r_zi rfl) (nil (t_then ?_))
    refine sq2 (sq2 (rg (pv (r_mi rfl) (pv (r_ib rfl rfl rfl) (nil (t_then ?_))))))
    refine cnd rfl (fun hb3 => ?_) (fun hb3 => ?_)
    · have hm := ctrue hb3 hm
      refine sq2 (rg (pv (r_fa rfl underlying34 rfl sizeOf3 rfl) (pv (r_ld rfl isAgg3 (hS6.cell0 (i := 1) ⟨rfl, rfl⟩ (j := 1) rfl)) (pv (r_bd (by kernel_rfl) rfl (u := .agg #[.slice none 0 0, iv x2.At, iv 3])) (wl rfl (st0B (q := 2) hS6 ⟨rfl, rfl⟩ rfl rfl rfl sizeOf34 rfl rfl rfl fun w6 im6 hS7 => ?_))))))
      refine nil (t_then ?_)
      have hm := oI hm; subst hm
      have hn1 : _ = Lp.ret _ := hn1
      subst hn1
      have hm := thn_ret hq1
      have hm := oI hm; subst hm
      exact rtn (r_then (r_blk (r_then (r_blk (r_then (retN (vs := [.agg #[.slice none 0 0, iv x2.At, iv 3]]) rfl ⟨rvS rfl isAgg34 sizeOf34 rfl (hS7.bx (i := 2) ⟨rfl, rfl⟩), trivial⟩ rfl ⟨_, rfl, _, (iT im1 (iT im3 (iT im4 (iT im5 im6)))), ⟨_, _, rfl, hS7.sel [3] rfl, SlR_nil, trivial⟩⟩))))))
    have hm := cfalse hb3 hm
    refine skp (t_then ?_)
    refine sq2 (sq2 (rg (pv (r_mi rfl) (pv (r_ib rfl rfl rfl) (nil (t_then ?_))))))
    refine cnd rfl (fun hb4 => ?_) (fun hb4 => ?_)
    · have hm := ctrue hb4 hm
      refine sq2 (rg (pv (r_fa rfl underlying34 rfl sizeOf3 rfl) (pv (r_ld rfl isAgg3 (hS6.cell0 (i := 1) ⟨rfl, rfl⟩ (j := 1) rfl)) (pv (r_mi rfl) (pv (r_ib rfl rfl rfl) (pv (r_fa rfl underlying34 rfl sizeOf3 rfl) (wl rfl (st0B (q := 1) hS6 ⟨rfl, rfl⟩ rfl rfl rfl sizeOf3 rfl rfl rfl fun w7 im7 hS8 => ?_))))))))
      refine nil (t_then ?_)
      have hm := oI hm; subst hm
      exact xt (x_then (x_eq (t_then ⟨m1, Nat.lt_succ_self _, _, _, ({ x2 with At := IntKind.wrap .i64 (x2.At + y1) }), _, _, _, env_has ⟨rfl, rfl, rfl, trivial⟩, (iT im4 (iT im5 im7)), hS8.sel [0, 1, 2, 3] rfl, hn1⟩)))
    have hm := cfalse hb4 hm
    refine skp (t_then ?_)
    refine sq2 ?_
    obtain ⟨y2, hx2, hm⟩ := bindS hm
    refine rg (pv (r_mt rfl) (pv (r_fa rfl underlying34 rfl sizeOf3 rfl) (pv (r_ld rfl isAgg3 (hS6.cell0 (i := 1) ⟨rfl, rfl⟩ (j := 1) rfl)) (wl rfl (calS cf14 rfl (ref07_One_sim (p0 := p0) (p1 := x2.At) (hS6.bun [0, 1, 2, 3] [] rfl)  hx2) rfl fun v2 T3 w8 im8 rv2 => ?_)))))
    obtain ⟨rfl, hS9, _⟩ := rv2
    have hS9 := hS9.unb
    refine pv (r_mv rfl) (pv (r_ex (v := .agg (cref07Token y2.1).toArray) rfl rfl) (pv (r_ex (v := iv y2.2) rfl rfl) (wl rfl (alS (zs := [iv 0, .string ⟨([] : List UInt8).toArray⟩, .int .u32 0, iv 0]) zeroValue71 rfl hS9 fun w9 b3 im9 hS10 => ?_))))
    refine wl rfl (st0B (q := 0) hS10 ⟨rfl, rfl⟩ rfl rfl rfl sizeOf71 rfl rfl rfl fun w10 im10 hS11 => ?_)
    refine pv (r_zi rfl) (nil (t_then ?_))
    refine sq2 (sq2 (rg (pv (r_mi rfl) (pv (r_ib rfl rfl rfl) (nil (t_then ?_))))))
    refine cnd rfl (fun hb5 => ?_) (fun hb5 => ?_)
    · have hm := ctrue hb5 hm
      refine sq2 (rg (pv (r_fa rfl underlying34 rfl sizeOf3 rfl) (pv (r_ld rfl isAgg3 (hS11.cell0 (i := 2) ⟨rfl, rfl⟩ (j := 1) rfl)) (pv (r_mi rfl) (pv (r_bd (by kernel_rfl) rfl (u := .agg #[.slice none 0 0, iv x2.At, iv y2.2])) (wl rfl (st0B (q := 3) hS11 ⟨rfl, rfl⟩ rfl rfl rfl sizeOf34 rfl rfl rfl fun w11 im11 hS12 => ?_)))))))
      refine nil (t_thenR [(2, pt b1 0)] ⟨rfl, trivial⟩ fun J => ?_)
      have hm := oI hm; subst hm
      have hn1 : _ = Lp.ret _ := hn1
      subst hn1
      have hm := thn_ret hq1
      have hm := oI hm; subst hm
      exact rtn (r_then (r_blk (r_then (r_blk (r_then (retN (vs := [.agg #[.slice none 0 0, iv x2.At, iv y2.2]]) rfl ⟨rvS rfl isAgg34 sizeOf34 rfl (hS12.bx (i := 3) ⟨rfl, rfl⟩), trivial⟩ rfl ⟨_, rfl, _, (iT im1 (iT im3 (iT im4 (iT im5 (iT im8 (iT im9 (iT im10 im11))))))), ⟨_, _, rfl, hS12.sel [4] rfl, SlR_nil, trivial⟩⟩))))))
    have hm := cfalse hb5 hm
    refine skp (t_then ?_)
    refine sq2 (rg (pv (r_fa rfl underlying34 rfl sizeOf32 rfl) (pv (r_ld rfl isAgg32 (hS11.cell0 (i := 2) ⟨rfl, rfl⟩ (j := 0) rfl)) (pv (r_ldS rfl isAgg71 sizeOf71 rfl (hS11.cells0 (i := 0) ⟨rfl, rfl⟩ (o := 0) rfl) (cs := (cref07Token y2.1))) (wl rfl (bsS (r := rref07Token) (l := ([y2.1] : List ref07Token)) (css := [(cref07Token y2.1)]) hS11 underlying32 sizeOf71 zeroValue71 rfl rfl (by kernel_rfl) rfl ⟨(rref07Token_mk (x := y2.1)  : rref07Token.rp _ _ _ _), trivial⟩ rfl rfl fun w12 a2 n2 c2 im12 hS13 => ?_))))))
    obtain ⟨z_1, hro1, hm⟩ := bindS hm
    refine wl rfl (apO (q := 2) (l := x2.L) (us := ([y2.1] : List ref07Token)) hS13 ⟨rfl, rfl⟩ rfl rfl (hS13.own (i := 0) ⟨rfl, rfl⟩).v underlying32 el71 (room_some hro1) fun w13 a3 n3 c3 im13 hS14 => ?_)
    refine pv (r_fa rfl underlying34 rfl sizeOf32 rfl) (wl rfl (st0B (q := 3) hS14 ⟨rfl, rfl⟩ rfl rfl rfl sizeOf32 rfl rfl rfl fun w14 im14 hS15 => ?_))
    refine nil (t_thenR [(0, .string ⟨p0.toArray⟩), (2, pt b1 0), (3, pt b2 0), (5, pt b3 0)] ⟨rfl, rfl, rfl, rfl, trivial⟩ fun J => ?_)
    refine rg (pv (r_fa rfl underlying34 rfl sizeOf3 rfl) (pv (r_ld rfl isAgg3 (hS15.cell0 (i := 3) ⟨rfl, rfl⟩ (j := 1) rfl)) (pv (r_fa rfl underlying71 rfl sizeOf9 rfl) (pv (r_ld rfl isAgg9 (hS15.cell0 (i := 1) ⟨rfl, rfl⟩ (j := 1) rfl)) (pv (r_lnt rfl underlying9) (pv (r_ib rfl rfl rfl) (pv (r_fa rfl underlying34 rfl sizeOf3 rfl) (wl rfl (st0B (q := 3) hS15 ⟨rfl, rfl⟩ rfl rfl rfl sizeOf3 rfl rfl rfl fun w15 im15 hS16 => ?_)))))))))
    have hm := oI hm; subst hm
    exact nil (t_blk (t_then ⟨m1, Nat.lt_succ_self _, _, _, (⟨x2.L ++ ([y2.1] : List ref07Token), IntKind.wrap .i64 (x2.At + (List.length y2.1.Text : Int)), x2.E⟩ : ref07Lexed), _, _, _, env_has ⟨rfl, rfl, rfl, trivial⟩, (iT im4 (iT im5 (iT im8 (iT im9 (iT im10 (iT im12 (iT im13 (iT im14 im15)))))))), hS16.sel [2, 3, 4, 5] rfl, hn1⟩))
  have hm := cfalse hb2 hm
  have hm := oI hm; subst hm
  have hn1 : _ = Lp.brk _ := hn1
  subst hn1
  have hm := thn_brk hq1
  refine xt (x_then (x_then (x_eq (t_then ?_))))
  refine sq2 (rg (pv (r_ldS rfl isAgg34 sizeOf34 rfl (hS5.cells0 (i := 1) ⟨rfl, rfl⟩ (o := 0) rfl) (cs := [.slice a1 n1 c1, iv x2.At, iv x2.E])) (wl rfl (st0B (q := 2) hS5 ⟨rfl, rfl⟩ rfl rfl rfl sizeOf34 rfl rfl rfl fun w16 im16 hS17 => ?_))))
  refine nil (t_then ?_)
  obtain ⟨T4, im17, hS18, h1⟩ := hS17.seal 0 ⟨rfl, rfl⟩
  have hsh := h1.len
  subst hsh
  have hm := oI hm; subst hm
  exact rtn (retN (vs := [.agg #[sv a1 x2.L c1, iv x2.At, iv x2.E]]) rfl ⟨rvS rfl isAgg34 sizeOf34 rfl (hS18.bx (i := 2) ⟨rfl, rfl⟩), trivial⟩ rfl ⟨_, rfl, _, (iT im1 (iT im3 (iT im4 (iT im16 im17)))), ⟨_, _, rfl, hS18.sel [3] rfl, h1, trivial⟩⟩)

theorem tree_Read_sim {p0 : List UInt8} {r : GProgram × Pos × Int} (hS : Sep g T0 w0 [R]) (hG0 : Gi T0 w0 0) (hm : tree_Read p0 = some r) :
    Calls Tryz.prog 17 #[.string ⟨p0.toArray⟩] w0 (RetS T0 w0 fun T w v => ∃ (a2 : OA) (c2 : Nat) (a3 : OA) (c3 : Nat) (a4 : OA) (c4 : Nat), v = .tuple #[.agg #[sv a2 r.1.Structs c2, sv a3 r.1.Globals c3, sv a4 r.1.Funcs c4], .agg #[iv r.2.1.Line, iv r.2.1.Col], iv r.2.2] ∧ Sep g T w [R] ∧ SlR (rVoid 4) T w (sv a2 r.1.Structs c2) r.1.Structs ∧ SlR (rVoid 9) T w (sv a3 r.1.Globals c3) r.1.Globals ∧ SlR (rVoid 8) T w (sv a4 r.1.Funcs c4) r.1.Funcs ∧ True) := by
  refine enter (args := [.string ⟨p0.toArray⟩]) Tryz.func17 rfl Tryz.ntmps17 rfl fun J => ?_
  unfold tree_Read at hm
  refine sq2 (rg (wl rfl (alS (zs := [.slice none 0 0, .slice none 0 0, .slice none 0 0]) zeroValue81 rfl hS fun w1 b1 im1 hS1 => ?_)))
  refine wl rfl (alS (zs := [iv 0, iv 0]) zeroValue28 rfl hS1 fun w2 b2 im2 hS2 => ?_)
  refine pv (r_zi rfl) (nil (t_then ?_))
  refine sq2 ?_
  obtain ⟨y1, hx1, hm⟩ := bindS hm
  refine rg (pv (r_mt rfl) (wl rfl (calS cf6 rfl (lex_Lex_sim (p0 := p0) (hS2.bun [0, 1, 2] [] rfl) (hG0.mono (iT im1 im2)) hx1) rfl fun v1 T1 w3 im3 rv1 => ?_)))
  obtain ⟨a1, n1, c1, rfl, hS3, _⟩ := rv1
  have hS3 := hS3.unb
  refine pv (r_mv rfl) (pv (r_ex (v := .slice a1 n1 c1) rfl rfl) (pv (r_ex (v := .agg #[iv y1.2.1.Line, iv y1.2.1.Col]) rfl rfl) (pv (r_ex (v := iv y1.2.2) rfl rfl) (wl rfl (alS (zs := [iv 0, iv 0]) zeroValue28 rfl hS3 fun w4 b3 im4 hS4 => ?_)))))
  refine pv (r_zs rfl) (wl rfl (st0B (q := 0) hS4 ⟨rfl, rfl⟩ rfl rfl rfl sizeOf28 rfl rfl rfl fun w5 im5 hS5 => ?_))
  refine pv (r_zi rfl) (nil (t_then ?_))
  refine sq2 (sq2 (rg (pv (r_mi rfl) (pv (r_ib rfl rfl rfl) (nil (t_then ?_))))))
  refine cnd rfl (fun hb1 => ?_) (fun hb1 => ?_)
  · have hm := ctrue hb1 hm
    refine sq2 (rs [0, 1, 0, 2, 2, 0] [0, 1, 2, 3, 4, 5] mix (by kernel_rfl) hS5.lt fun w6 i1 => ?_)
    have im6 := i1.imm
    have hS6 := hS5.keep i1 (fun _ h => h)
    refine s0 rfl trivial (fun _ => r_bd (by kernel_rfl) rfl (u := .agg #[.slice none 0 0, .slice none 0 0, .slice none 0 0])) rfl (s1 rfl trivial (r_ldS rfl isAgg28 sizeOf28 rfl (hS6.cells0 (i := 0) ⟨rfl, rfl⟩ (o := 0) rfl) (cs := [iv y1.2.1.Line, iv y1.2.1.Col])) rfl (s0 rfl trivial (fun _ => r_mi rfl) rfl (s2 [(1, .agg #[iv y1.2.1.Line, iv y1.2.1.Col])] rfl trivial rfl (by kernel_rfl) (st0B (q := 2) hS6 ⟨rfl, rfl⟩ rfl rfl rfl sizeOf81 rfl rfl rfl fun w7 im7 hS7 => ?_))))
    refine ⟨st1 rfl (r_ldS rfl isAgg28 sizeOf28 rfl (hS7.cells0 (i := 0) ⟨rfl, rfl⟩ (o := 0) rfl) (cs := [iv y1.2.1.Line, iv y1.2.1.Col])) (st0), ?_⟩
    refine s2 [] rfl trivial rfl (by kernel_rfl) (st0B (q := 1) hS7 ⟨rfl, rfl⟩ rfl rfl rfl sizeOf28 rfl rfl rfl fun w8 im8 hS8 => ?_)
    refine ⟨st0, ?_⟩
    refine s0 rfl trivial (fun _ => r_zi rfl) rfl (se (t_then ?_))
    have hm := oI hm; subst hm
    exact rtn (r_then (retN (vs := [.agg #[.slice none 0 0, .slice none 0 0, .slice none 0 0], .agg #[iv y1.2.1.Line, iv y1.2.1.Col], iv y1.2.2]) rfl ⟨rvS rfl isAgg81 sizeOf81 rfl (hS8.bx (i := 2) ⟨rfl, rfl⟩), rvS rfl isAgg28 sizeOf28 rfl (hS8.bx (i := 1) ⟨rfl, rfl⟩), rfl, trivial⟩ rfl ⟨_, rfl, _, (iT im1 (iT im2 (iT im3 (iT im4 (iT im5 (iT im6 (iT im7 im8))))))), ⟨_, _, _, _, _, _, rfl, hS8.sel [3] rfl, SlR_nil, SlR_nil, SlR_nil, trivial⟩⟩))
  have hm := cfalse hb1 hm
  cases hm
end Go.Proofs.YtokpeeflnijogaaGreatDoor
