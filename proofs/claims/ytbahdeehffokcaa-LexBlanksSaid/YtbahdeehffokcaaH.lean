/- Contracts of the library's functions strings.Index and strings.Join, told of what a function owns. -/
import Derived.Test.YtbahdeehffokcaaRows
import Derived.Test.YtbahdeehffokcaaArr
import Derived.Test.YtbahdeehffokcaaStr
import Derived.Test.YtbahdeehffokcaaM
import Derived.Shelf.Strings.Search3
import Derived.Shelf.Strings.OnBuilder
set_option linter.unusedVariables false
namespace Go.Proofs.Ytbahdeehffokcaa
open Go.Shelf
def ren : Go.Shelf.Ren := ⟨fun x => match x with | 143 => 22 | 156 => 20 | 165 => 32 | 166 => 33 | 169 => 34 | 217 => 41 | 219 => 36 | 224 => 43 | 225 => 42 | 240 => 39 | 241 => 40 | 266 => 47 | 267 => 44 | 276 => 45 | 277 => 46 | 314 => 48 | x => x, fun x => match x with | 0 => 0 | 3 => 3 | 4 => 4 | 5 => 5 | 9 => 9 | 20 => 20 | 31 => 30 | 37 => 22 | 46 => 68 | 51 => 31 | 70 => 52 | 72 => 54 | 75 => 56 | 76 => 57 | 80 => 59 | 127 => 65 | 146 => 72 | 164 => 69 | x => x, fun x => match x with | 1 => 0 | x => x⟩
set_option maxRecDepth 100000 in
theorem lays143 : Lays.n143 Try.prog ren where
  mixed := by kernel_rfl
  f143 := by kernel_rfl
  f217 := by kernel_rfl
  f219 := by kernel_rfl
  f224 := by kernel_rfl
  f225 := by kernel_rfl
  f266 := by kernel_rfl
  f267 := by kernel_rfl
  f314 := by kernel_rfl
  t3 := Try.underlying3
  a3 := Try.isAgg3
  z3 := Try.sizeOf3
  v3 := Try.zeroValue3
  t4 := Try.underlying4
  a4 := Try.isAgg4
  z4 := Try.sizeOf4
  v4 := Try.zeroValue4
  t5 := Try.underlying5
  a5 := Try.isAgg5
  z5 := Try.sizeOf5
  v5 := Try.zeroValue5
  t9 := Try.underlying9
  a9 := Try.isAgg9
  z9 := Try.sizeOf9
  v9 := Try.zeroValue9
  t46 := Try.underlying68
  a46 := Try.isAgg68
  z46 := Try.sizeOf68
  v46 := Try.zeroValue68
  t51 := Try.underlying31
  a51 := Try.isAgg31
  z51 := Try.sizeOf31
  v51 := Try.zeroValue31
  t146 := Try.underlying72
  a146 := Try.isAgg72
  z146 := Try.sizeOf72
  v146 := Try.zeroValue72
  g1 := by kernel_rfl
set_option maxRecDepth 100000 in
theorem lays156 : Lays.n156 Try.prog ren where
  mixed := by kernel_rfl
  f156 := by kernel_rfl
  f165 := by kernel_rfl
  f166 := by kernel_rfl
  f169 := by kernel_rfl
  f240 := by kernel_rfl
  f241 := by kernel_rfl
  f276 := by kernel_rfl
  f277 := by kernel_rfl
  t0 := Try.underlying0
  a0 := Try.isAgg0
  z0 := Try.sizeOf0
  v0 := Try.zeroValue0
  t3 := Try.underlying3
  a3 := Try.isAgg3
  z3 := Try.sizeOf3
  v3 := Try.zeroValue3
  t4 := Try.underlying4
  a4 := Try.isAgg4
  z4 := Try.sizeOf4
  v4 := Try.zeroValue4
  t9 := Try.underlying9
  a9 := Try.isAgg9
  z9 := Try.sizeOf9
  v9 := Try.zeroValue9
  t20 := Try.underlying20
  a20 := Try.isAgg20
  z20 := Try.sizeOf20
  v20 := Try.zeroValue20
  t31 := Try.underlying30
  a31 := Try.isAgg30
  z31 := Try.sizeOf30
  v31 := Try.zeroValue30
  t37 := Try.underlying22
  a37 := Try.isAgg22
  z37 := Try.sizeOf22
  v37 := Try.zeroValue22
  t70 := Try.underlying52
  a70 := Try.isAgg52
  z70 := Try.sizeOf52
  v70 := Try.zeroValue52
  t72 := Try.underlying54
  a72 := Try.isAgg54
  z72 := Try.sizeOf54
  v72 := Try.zeroValue54
  t75 := Try.underlying56
  a75 := Try.isAgg56
  z75 := Try.sizeOf56
  v75 := Try.zeroValue56
  t76 := Try.underlying57
  a76 := Try.isAgg57
  z76 := Try.sizeOf57
  v76 := Try.zeroValue57
  t127 := Try.underlying65
  a127 := Try.isAgg65
  z127 := Try.sizeOf65
  v127 := Try.zeroValue65
  t164 := Try.underlying69
  a164 := Try.isAgg69
  z164 := Try.sizeOf69
  v164 := Try.zeroValue69

set_option maxRecDepth 100000 in
theorem extraB : Builder.Extra Try.prog ren where
  sizeBuilder := by kernel_rfl
  liesBuilder := by kernel_rfl
  t5 := by kernel_rfl
  a5 := Try.isAgg5
  z5 := Try.sizeOf5
  v5 := Try.zeroValue5
  infoByte := by kernel_rfl
  cellsByte := by kernel_rfl
  sizeByte := by kernel_rfl
  neB5 := by decide
theorem strings_Index_sim {g : World} {T0 : Nat → Prop} {w0 : World} {R : Assn} {p0 p1 : List UInt8} {r : Int} (hS : Sep g T0 w0 [R]) (hG : Gi T0 w0 0) (hm : strings_Index p0 p1 = some r) :
    Calls Try.prog 22 #[.string ⟨p0.toArray⟩, .string ⟨p1.toArray⟩] w0 (RetS T0 w0 fun T w v => v = .int .i64 r ∧ Sep g T w [R] ∧ True) := by
  unfold strings_Index at hm
  split at hm
  · rename_i hl
    cases hm
    obtain ⟨_, m, hc⟩ := hG
    refine (Any.strings_Index lays143 ⟨p0.toArray⟩ ⟨p1.toArray⟩ m w0 (by show p0.toArray.size < 4294967281; simpa using hl) hc).mono ?_
    rintro e w ⟨rfl, rfl⟩
    exact ⟨_, rfl, _, Im.refl, rfl, hS, trivial⟩
  · cases hm
theorem strings_Join_sim {g : World} {T0 : Nat → Prop} {w0 : World} {R : Assn} {p0 : List (List UInt8)} {a1 : Option Addr} {c1 : Nat} {p1 r : List UInt8} (hS : Sep g T0 w0 [R]) (h1 : SlR rStr T0 w0 (.slice a1 (List.length p0) c1) p0) (hm : strings_Join p0 p1 = some r) :
    Calls Try.prog 20 #[.slice a1 (List.length p0) c1, .string ⟨p1.toArray⟩] w0 (RetS T0 w0 fun T w v => v = .string ⟨r.toArray⟩ ∧ Sep g T w [R] ∧ True) := by
  unfold strings_Join at hm
  split at hm
  · rename_i hl
    cases hm
    obtain ⟨a, cap, e, hlc, hcm, hx⟩ := h1
    cases e
    have hd : p0 = (p0.map fun x => (⟨x.toArray⟩ : ByteArray)).map (·.data.toList) := by rw [List.map_map]; exact (List.map_id p0).symm
    rcases hx with rfl | ⟨b, off, rfl, hT, hcells⟩
    · refine (Any.strings_Join_none lays156 extraB a1 c1 ⟨p1.toArray⟩ w0).mono ?_
      rintro e w ⟨rfl, rfl⟩
      exact ⟨_, rfl, _, Im.refl, rfl, hS, trivial⟩
    · have hlen : (p0.map fun x => (⟨x.toArray⟩ : ByteArray)).length = p0.length := by simp
      have key := Any.strings_Join lays156 extraB b off c1 (p0.map fun x => (⟨x.toArray⟩ : ByteArray)) ⟨p1.toArray⟩ w0 (fun j x hj => by
          rw [List.getElem?_map] at hj
          cases hp : p0[j]? with
          | none => rw [hp] at hj; cases hj
          | some y =>
            rw [hp] at hj
            cases hj
            obtain ⟨cs, hr, hc⟩ := hcells j y hp
            have hr' : cs = [.string ⟨y.toArray⟩] := hr
            subst hr'
            have := hc 0 _ rfl
            rw [Nat.add_zero, show rStr.sz = 1 from rfl, Nat.mul_one] at this
            exact this) (hS.lt b hT) (by rw [hlen]; omega) (by rw [hlen]; exact hlc) (by rw [← hd]; show (Go.Lib.join p0 p1.toArray.toList).length ≤ _; have := hl.2; simp only [List.toList_toArray] at this ⊢; omega)
      rw [hlen] at key
      refine key.mono ?_
      rintro e w ⟨rfl, hB⟩
      have hj : Go.Lib.join ((p0.map fun x => (⟨x.toArray⟩ : ByteArray)).map (·.data.toList)) (⟨p1.toArray⟩ : ByteArray).data.toList = Go.Lib.join p0 p1 := by rw [← hd]
      have hinn : Inn w0.heap.size noB T0 w0 T0 w := ⟨⟨hB.os, hB.tape, hB.output, hB.size, fun b hb' _ => hB.block b hb'⟩, fun b hb' => ⟨hb', hB.block b (hS.lt b hb')⟩, fun _ _ h => h, fun b hb' => Nat.lt_of_lt_of_le (hS.lt b hb') hB.size, hB.size⟩
      exact ⟨_, rfl, _, hinn.imm, by rw [hj], hS.keep hinn (fun _ h => h), trivial⟩
  · cases hm
end Go.Proofs.Ytbahdeehffokcaa
