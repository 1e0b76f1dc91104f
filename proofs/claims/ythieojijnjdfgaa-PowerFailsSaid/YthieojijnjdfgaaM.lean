/- The models of Go functions: what each computes. Printed by gen2.py. -/
import Derived.Test.YthieojijnjdfgaaModel
import Derived.Laws.Entries
set_option linter.unusedVariables false
namespace Go.Proofs.Ythieojijnjdfgaa
structure PowerSupply where
  Ticks : List Int
  Room : Int
  On : Int
  deriving DecidableEq
structure PowerPlant where
  Supply : PowerSupply
  kept : Int
  on : Bool
  done : Int
  fails : List Int
  deriving DecidableEq
structure ref33Run where
  Fails : List Int
  Done : Int
  deriving DecidableEq


def power_Right_1 (p0 : Int) : Option (Bool) :=
  bif decide (p0 < 0) then (some true) else (some (decide (1048576 < p0)))

def slices_IndexFunc (p0 : List Int) : Option (Int) :=
  (loopM (fun (x1 : Int) => (bif decide (x1 < (List.length p0 : Int)) then ((idx p0 x1).bind fun u1 => (power_Right_1 u1).bind fun y1 => bif y1 then (some (Lp.ret x1)) else (some (Lp.go (IntKind.wrap .i64 (x1 + 1))))) else (some (Lp.brk x1)) : Option (Lp (Int) (Int)))) NN 0).bind fun o => o.thn (fun (x1 : Int) => some (-1)) (fun r => some r)

def slices_ContainsFunc (p0 : List Int) : Option (Bool) :=
  (slices_IndexFunc p0).bind fun y1 => some (decide (0 ≤ y1))

def power_Right (p0 : PowerSupply) : Option (Bool) :=
  bif decide (1 ≤ (List.length p0.Ticks : Int)) then (bif decide ((List.length p0.Ticks : Int) ≤ 4096) then ((slices_ContainsFunc p0.Ticks).bind fun y1 => bif !y1 then (bif decide (1 ≤ p0.On) then (bif decide (p0.On ≤ p0.Room) then (some (decide (p0.Room ≤ 1048576))) else (some false)) else (some false)) else (some false)) else (some false)) else (some false)

def power_coming (p0 : List Int) (p1 : Int) : Option (Int × (List Int)) :=
  some (p1, p0)

def power_coming_1 {σ ε : Type} (p0 : σ → Int → Option (Lp σ ε)) (p1 : σ) (p2 : Int) (p3 : List Int) : Option ((Lp σ ε)) :=
  (loopM (fun (x1, x2) => (bif decide (x2 < p2) then ((nz (List.length p3 : Int)).bind fun _ => (idx p3 (Int.tmod x2 (List.length p3 : Int))).bind fun u1 => (p0 x1 u1).bind fun z1 => Lp.gone z1 (fun s1 => some (Lp.go (s1, IntKind.wrap .i64 (x2 + 1)))) (some (Lp.ret z1))) else (some (Lp.brk (x1, x2))) : Option (Lp (σ × Int) ((Lp σ ε))))) NN (p1, 0)).bind fun o => o.thn (fun (x1, x2) => some (Lp.go x1)) (fun r => some r)

def power_plant_tick (p0 : PowerPlant) (p1 : Int) : Option (PowerPlant) :=
  jn (fun kk1 => bif !p0.on then (bif decide (p0.Supply.On ≤ (min (IntKind.wrap .i64 (p0.kept + p1)) p0.Supply.Room)) then (bif decide (0 < p0.done) then ((room (List.length p0.fails + List.length ([p0.done] : List Int))).bind fun _ => kk1 (⟨p0.Supply, min (IntKind.wrap .i64 (p0.kept + p1)) p0.Supply.Room, true, p0.done, p0.fails ++ ([p0.done] : List Int)⟩ : PowerPlant)) else (kk1 ({ p0 with kept := min (IntKind.wrap .i64 (p0.kept + p1)) p0.Supply.Room, on := true }))) else (kk1 ({ p0 with kept := min (IntKind.wrap .i64 (p0.kept + p1)) p0.Supply.Room }))) else (kk1 ({ p0 with kept := min (IntKind.wrap .i64 (p0.kept + p1)) p0.Supply.Room }))) (fun (x2 : PowerPlant) => bif !x2.on then (some x2) else (some (⟨x2.Supply, IntKind.wrap .i64 (x2.kept - 1), decide (0 < (IntKind.wrap .i64 (x2.kept - 1))), IntKind.wrap .i64 (x2.done + 1), x2.fails⟩ : PowerPlant)))

def power_Fails (p0 : PowerSupply) (p1 : Int) : Option ((List Int) × Int × Int) :=
  (power_Right p0).bind fun y1 => bif !y1 then (some ([], 0, 1)) else ((power_coming p0.Ticks (min (max p1 0) 4000000)).bind fun y2 => (power_coming_1 (fun (x2 : PowerPlant) (x3 : Int) => ((power_plant_tick x2 x3).bind fun y3 => some (Lp.go y3) : Option (Lp (PowerPlant) Unit))) (⟨p0, 0, false, 0, []⟩ : PowerPlant) y2.1 y2.2).bind fun o => Lp.gone o (fun (x2 : PowerPlant) => some (x2.fails, x2.done, 0)) none)

def law33_awake  : Option (Bool) :=
  (power_Fails (⟨([1, 0] : List Int), 5, 2⟩ : PowerSupply) 8).bind fun y1 => bif y1.2.2 == 0 then (bif y1.2.1 == 4 then (bif (List.length y1.1 : Int) == 1 then ((idx y1.1 0).bind fun u1 => some (u1 == 2)) else (some false)) else (some false)) else (some false)

def law33_PowerApart (p0 : PowerSupply) (p1 : Int) : Option (Bool) :=
  bif decide (300 < (List.length p0.Ticks : Int)) then ((law33_awake).bind fun y5 => some y5) else (bif decide (20000 < p1) then ((law33_awake).bind fun y1 => some y1) else ((power_Fails p0 p1).bind fun y2 => bif y2.2.2 != 0 then ((law33_awake).bind fun y3 => bif y3 then (some (y2.2.2 == 1)) else (some false)) else ((loopM (fun (x1, x2) => (bif decide (x2 < (List.length y2.1 : Int)) then ((idx y2.1 x2).bind fun u1 => bif decide ((IntKind.wrap .i64 (u1 - x1)) < p0.On) then (some (Lp.ret false)) else ((idx y2.1 x2).bind fun u2 => some (Lp.go (u2, IntKind.wrap .i64 (x2 + 1))))) else (some (Lp.brk (x1, x2))) : Option (Lp (Int × Int) (Bool)))) NN (0, 0)).bind fun o => o.thn (fun (x1, x2) => (law33_awake).bind fun y4 => bif y4 then (some (decide (x1 ≤ y2.2.1))) else (some false)) (fun r => some r))))

def law33_few (p0 : PowerSupply) : Option (Bool) :=
  bif decide ((List.length p0.Ticks : Int) ≤ 300) then (some true) else (bif decide (4096 < (List.length p0.Ticks : Int)) then (some (decide ((List.length p0.Ticks : Int) ≤ 5000))) else (some false))

def ref33_Right (p0 : List Int) (p1 : Int) (p2 : Int) : Option (Bool) :=
  bif decide ((List.length p0 : Int) < 1) then (some false) else (bif decide (4096 < (List.length p0 : Int)) then (some false) else (bif decide (p2 < 1) then (some false) else (bif decide (p1 < p2) then (some false) else (bif decide (1048576 < p1) then (some false) else ((loopM (fun (x1 : Int) => (bif decide (x1 < (List.length p0 : Int)) then ((idx p0 x1).bind fun u1 => bif decide (u1 < 0) then (some (Lp.ret false)) else ((idx p0 x1).bind fun u2 => bif decide (1048576 < u2) then (some (Lp.ret false)) else (some (Lp.go (IntKind.wrap .i64 (x1 + 1)))))) else (some (Lp.brk x1)) : Option (Lp (Int) (Bool)))) NN 0).bind fun o => o.thn (fun (x1 : Int) => some true) (fun r => some r))))))

def power_Steady_1 (p0 : Int) : Option (Bool) :=
  some (decide (0 < p0))

def slices_IndexFunc_2 (p0 : List Int) : Option (Int) :=
  (loopM (fun (x1 : Int) => (bif decide (x1 < (List.length p0 : Int)) then ((idx p0 x1).bind fun u1 => (power_Steady_1 u1).bind fun y1 => bif y1 then (some (Lp.ret x1)) else (some (Lp.go (IntKind.wrap .i64 (x1 + 1))))) else (some (Lp.brk x1)) : Option (Lp (Int) (Int)))) NN 0).bind fun o => o.thn (fun (x1 : Int) => some (-1)) (fun r => some r)

def slices_ContainsFunc_2 (p0 : List Int) : Option (Bool) :=
  (slices_IndexFunc_2 p0).bind fun y1 => some (decide (0 ≤ y1))

def power_Steady (p0 : PowerSupply) : Option (Bool) :=
  (slices_ContainsFunc_2 p0.Ticks).bind fun y1 => some y1

def ref33_Go (p0 : List Int) (p1 : Int) (p2 : Int) (p3 : Int) : Option (ref33Run) :=
  (loopM (fun (x2, x3, x4, x5) => (bif decide (x4 < p3) then (jn (fun kk1 => (nz (List.length p0 : Int)).bind fun _ => (idx p0 (Int.tmod x4 (List.length p0 : Int))).bind fun u1 => jn (fun kk2 => bif decide (p1 < (IntKind.wrap .i64 (x2 + u1))) then (kk2 p1) else (kk2 (IntKind.wrap .i64 (x2 + u1)))) (fun (x10 : Int) => jn (fun kk3 => bif !x3 then (bif decide (p2 ≤ x10) then (bif decide (0 < x5.Done) then ((room (List.length x5.Fails + List.length ([x5.Done] : List Int))).bind fun _ => kk3 true (⟨x5.Fails ++ ([x5.Done] : List Int), x5.Done⟩ : ref33Run)) else (kk3 true x5)) else (kk3 x3 x5)) else (kk3 x3 x5)) (fun (x12 : Bool) (x13 : ref33Run) => jn (fun kk4 => bif x12 then (kk4 (IntKind.wrap .i64 (x10 - 1)) (⟨x13.Fails, IntKind.wrap .i64 (x13.Done + 1)⟩ : ref33Run)) else (kk4 x10 x13)) (fun (x14 : Int) (x15 : ref33Run) => bif x14 == 0 then (kk1 x14 false (⟨x13.Fails, x15.Done⟩ : ref33Run)) else (kk1 x14 x12 (⟨x13.Fails, x15.Done⟩ : ref33Run)))))) (fun (x7 : Int) (x8 : Bool) (x9 : ref33Run) => some (Lp.go (x7, x8, IntKind.wrap .i64 (x4 + 1), x9)))) else (some (Lp.brk (x2, x3, x4, x5))) : Option (Lp (Int × Bool × Int × ref33Run) (Unit)))) NN (0, false, 0, (⟨[], 0⟩ : ref33Run))).bind fun o => o.thn (fun (x2, x3, x4, x5) => some x5) (fun _ => none)

def law33_PowerFails (p0 : PowerSupply) (p1 : Int) : Option (Bool) :=
  (law33_few p0).bind fun y1 => bif !y1 then ((law33_awake).bind fun y10 => some y10) else (bif decide (20000 < p1) then ((law33_awake).bind fun y2 => some y2) else ((power_Fails p0 p1).bind fun y3 => (ref33_Right p0.Ticks p0.Room p0.On).bind fun y4 => (loopM (fun (x1, x2) => (bif decide (x2 < (List.length p0.Ticks : Int)) then (bif x1 then (some (Lp.go (true, IntKind.wrap .i64 (x2 + 1)))) else ((idx p0.Ticks x2).bind fun u1 => some (Lp.go (decide (0 < u1), IntKind.wrap .i64 (x2 + 1))))) else (some (Lp.brk (x1, x2))) : Option (Lp (Bool × Int) (Unit)))) NN (false, 0)).bind fun o => o.thn (fun (x1, x2) => (power_Right p0).bind fun y5 => bif !(y5 == y4) then (some false) else ((power_Steady p0).bind fun y6 => bif !(y6 == x1) then (some false) else (bif !y4 then ((law33_awake).bind fun y7 => bif y7 then (bif y3.2.2 == 1 then (bif (List.length y3.1 : Int) == 0 then (some (y3.2.1 == 0)) else (some false)) else (some false)) else (some false)) else ((ref33_Go p0.Ticks p0.Room p0.On p1).bind fun y8 => bif y3.2.2 != 0 then (some false) else (bif y3.2.1 != y8.Done then (some false) else (bif (List.length y3.1 : Int) != (List.length y8.Fails : Int) then (some false) else ((loopM (fun (x3 : Int) => (bif decide (x3 < (List.length y3.1 : Int)) then ((idx y3.1 x3).bind fun u2 => (idx y8.Fails x3).bind fun u3 => bif u2 != u3 then (some (Lp.ret false)) else (some (Lp.go (IntKind.wrap .i64 (x3 + 1))))) else (some (Lp.brk x3)) : Option (Lp (Int) (Bool)))) NN 0).bind fun o => o.thn (fun (x3 : Int) => (law33_awake).bind fun y9 => some y9) (fun r => some r)))))))) (fun _ => none)))
end Go.Proofs.Ythieojijnjdfgaa
