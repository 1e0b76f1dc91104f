/- The contract of strings.Index, which the reader calls. -/
import Derived.Test.YtfffghclkmbopaaGreatRows
import Derived.Test.YtfffghclkmbopaaGreatKLB
import Derived.Test.YtfffghclkmbopaaGreatKM
import Derived.Shelf.Strings.Search3
set_option linter.unusedVariables false
namespace Go.Proofs.YtfffghclkmbopaaGreat
open Go.Shelf Go.RowKit Go.Lib
def ren:Go.Shelf.Ren:=⟨fun x=>match x with|143=>47|217=>112|219=>83|224=>114|225=>113|266=>151|267=>115|314=>152|x=>x,fun x=>match x with|3=>3|4=>4|5=>5|9=>9|46=>209|51=>104|146=>232|x=>x,fun x=>match x with|1=>0|x=>x⟩
set_option maxRecDepth 100000 in
theorem lays143:Lays.n143 Tryz.prog ren where
 mixed:=by kernel_rfl
 f143:=by kernel_rfl
 f217:=by kernel_rfl
 f219:=by kernel_rfl
 f224:=by kernel_rfl
 f225:=by kernel_rfl
 f266:=by kernel_rfl
 f267:=by kernel_rfl
 f314:=by kernel_rfl
 t3:=Tryz.underlying3
 a3:=Tryz.isAgg3
 z3:=Tryz.sizeOf3
 v3:=Tryz.zeroValue3
 t4:=Tryz.underlying4
 a4:=Tryz.isAgg4
 z4:=Tryz.sizeOf4
 v4:=Tryz.zeroValue4
 t5:=Tryz.underlying5
 a5:=Tryz.isAgg5
 z5:=Tryz.sizeOf5
 v5:=Tryz.zeroValue5
 t9:=Tryz.underlying9
 a9:=Tryz.isAgg9
 z9:=Tryz.sizeOf9
 v9:=Tryz.zeroValue9
 t46:=Tryz.underlying209
 a46:=Tryz.isAgg209
 z46:=Tryz.sizeOf209
 v46:=Tryz.zeroValue209
 t51:=Tryz.underlying104
 a51:=Tryz.isAgg104
 z51:=Tryz.sizeOf104
 v51:=Tryz.zeroValue104
 t146:=Tryz.underlying232
 a146:=Tryz.isAgg232
 z146:=Tryz.sizeOf232
 v146:=Tryz.zeroValue232
 g1:=by kernel_rfl

section
variable{g:World}{T0:Nat->Prop}{w0:World}{R:X4}
theorem Z3s{p0 p1:List UInt8}{r:Int}(hS:Sep g T0 w0 [R])(hG:Gi T0 w0 0)(hm:strings_Index p0 p1=some r):
 Calls Tryz.prog 47 #[.string ⟨p0.toArray⟩,.string ⟨p1.toArray⟩] w0 (J1 T0 w0 fun T w v=>v= .int .i64 r/\Sep g T w [R]/\True):=by
 unfold strings_Index at hm
 split at hm
 . rename_i hl
   cases hm;obtain⟨_,m,hc⟩:=hG;refine(Any.strings_Index lays143 ⟨p0.toArray⟩ ⟨p1.toArray⟩ m w0 (by show p0.toArray.size<4294967281;simpa using hl) hc).mono ?_;rintro e w ⟨rfl,rfl⟩;exact⟨_,rfl,_,Im.refl,rfl,hS,trivial⟩
 . cases hm
end
end Go.Proofs.YtfffghclkmbopaaGreat
