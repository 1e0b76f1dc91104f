/- The contract of strings.Index, which the reader calls. -/
import Derived.Test.YtbfpdnogfkbiaaaGreatRows
import Derived.Test.YtbfpdnogfkbiaaaGreatVLB
import Derived.Test.YtbfpdnogfkbiaaaGreatVM
import Derived.Shelf.Strings.Search3
set_option linter.unusedVariables false
namespace Go.Proofs.YtbfpdnogfkbiaaaGreat
open Go.Shelf Go.RowKit Go.Lib
def ren:Go.Shelf.Ren:=⟨fun x=>match x with|143=>45|217=>122|219=>86|224=>124|225=>123|266=>167|267=>125|314=>168|x=>x,fun x=>match x with|3=>3|4=>4|5=>5|9=>9|46=>243|51=>33|146=>271|x=>x,fun x=>match x with|1=>0|x=>x⟩
set_option maxRecDepth 100000 in
theorem lays143:Lays.n143 Tryz.prog ren where
 mixed:=by kernel_rfl
 f143:=by kernel_rfl
 f217:=by kernel_rfl
 f219:=by kernel_rfl
 f224:=by kernel_rfl
 f225:=by kernel_rfl
 f266:=by kernel_rfl
 f267:=by kernel_rfl
 f314:=by kernel_rfl
 t3:=Tryz.underlying3
 a3:=Tryz.isAgg3
 z3:=Tryz.sizeOf3
 v3:=Tryz.zeroValue3
 t4:=Tryz.underlying4
 a4:=Tryz.isAgg4
 z4:=Tryz.sizeOf4
 v4:=Tryz.zeroValue4
 t5:=Tryz.underlying5
 a5:=Tryz.isAgg5
 z5:=Tryz.sizeOf5
 v5:=Tryz.zeroValue5
 t9:=Tryz.underlying9
 a9:=Tryz.isAgg9
 z9:=Tryz.sizeOf9
 v9:=Tryz.zeroValue9
 t46:=Tryz.underlying243
 a46:=Tryz.isAgg243
 z46:=Tryz.sizeOf243
 v46:=Tryz.zeroValue243
 t51:=Tryz.underlying33
 a51:=Tryz.isAgg33
 z51:=Tryz.sizeOf33
 v51:=Tryz.zeroValue33
 t146:=Tryz.underlying271
 a146:=Tryz.isAgg271
 z146:=Tryz.sizeOf271
 v146:=Tryz.zeroValue271
 g1:=by kernel_rfl

section
variable{g:World}{T0:Nat->Prop}{w0:World}{R:Y9}
theorem Z6l{p0 p1:List UInt8}{r:Int}(hS:Sep g T0 w0 [R])(hG:Gi T0 w0 0)(hm:strings_Index p0 p1=some r):
 Calls Tryz.prog 45 #[.string ⟨p0.toArray⟩,.string ⟨p1.toArray⟩] w0 (K6 T0 w0 fun T w v=>v= .int .i64 r/\Sep g T w [R]/\True):=by
 unfold strings_Index at hm
 split at hm
 . rename_i hl
   cases hm;obtain⟨_,m,hc⟩:=hG;refine(Any.strings_Index lays143 ⟨p0.toArray⟩ ⟨p1.toArray⟩ m w0 (by show p0.toArray.size<4294967281;simpa using hl) hc).mono ?_;rintro e w ⟨rfl,rfl⟩;exact⟨_,rfl,_,Im.refl,rfl,hS,trivial⟩
 . cases hm
end
end Go.Proofs.YtbfpdnogfkbiaaaGreat
