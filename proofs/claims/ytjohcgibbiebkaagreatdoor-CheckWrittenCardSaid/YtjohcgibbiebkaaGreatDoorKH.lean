/- Contracts of the library's functions that package tree calls: strings.Index, strings.Join, strconv.FormatUint at base 10. -/
import Derived.Test.YtjohcgibbiebkaaGreatDoorRows
import Derived.Test.YtjohcgibbiebkaaGreatDoorKLB
import Derived.Test.YtjohcgibbiebkaaGreatDoorKM
import Derived.Shelf.Strings.Search3
import Derived.Shelf.Strings.OnBuilder
import Derived.Shelf.Strconv.Itoa3
import Derived.Lib.AppendIntMem
set_option linter.unusedVariables false
namespace Go.Proofs.YtjohcgibbiebkaaGreatDoor
open Go.Shelf Go.RowKit Go.Sort Go.Lib
def ren:Go.Shelf.Ren:=⟨fun x=>match x with|129=>162|143=>39|156=>15|165=>28|166=>29|169=>30|217=>114|219=>80|224=>116|225=>115|240=>64|241=>65|266=>157|267=>117|276=>93|277=>94|283=>129|284=>130|285=>131|314=>158|317=>161|318=>163|x=>x,fun x=>match x with|0=>0|3=>3|4=>4|5=>5|9=>9|20=>20|31=>60|37=>93|46=>216|51=>100|53=>153|70=>113|72=>115|75=>117|76=>118|80=>120|127=>159|146=>245|164=>194|212=>248|x=>x,fun x=>match x with|1=>0|17=>1|x=>x⟩
set_option maxRecDepth 100000 in
theorem lays143:Lays.n143 Tryz.prog ren where
 mixed:=by kernel_rfl
 f143:=by kernel_rfl
 f217:=by kernel_rfl
 f219:=by kernel_rfl
 f224:=by kernel_rfl
 f225:=by kernel_rfl
 f266:=by kernel_rfl
 f267:=by kernel_rfl
 f314:=by kernel_rfl
 t3:=Tryz.underlying3
 a3:=Tryz.isAgg3
 z3:=Tryz.sizeOf3
 v3:=Tryz.zeroValue3
 t4:=Tryz.underlying4
 a4:=Tryz.isAgg4
 z4:=Tryz.sizeOf4
 v4:=Tryz.zeroValue4
 t5:=Tryz.underlying5
 a5:=Tryz.isAgg5
 z5:=Tryz.sizeOf5
 v5:=Tryz.zeroValue5
 t9:=Tryz.underlying9
 a9:=Tryz.isAgg9
 z9:=Tryz.sizeOf9
 v9:=Tryz.zeroValue9
 t46:=Tryz.underlying216
 a46:=Tryz.isAgg216
 z46:=Tryz.sizeOf216
 v46:=Tryz.zeroValue216
 t51:=Tryz.underlying100
 a51:=Tryz.isAgg100
 z51:=Tryz.sizeOf100
 v51:=Tryz.zeroValue100
 t146:=Tryz.underlying245
 a146:=Tryz.isAgg245
 z146:=Tryz.sizeOf245
 v146:=Tryz.zeroValue245
 g1:=by kernel_rfl
set_option maxRecDepth 100000 in
theorem X5v:Lays.n156 Tryz.prog ren where
 mixed:=by kernel_rfl
 f156:=by kernel_rfl
 f165:=by kernel_rfl
 f166:=by kernel_rfl
 f169:=by kernel_rfl
 f240:=by kernel_rfl
 f241:=by kernel_rfl
 f276:=by kernel_rfl
 f277:=by kernel_rfl
 t0:=Tryz.underlying0
 a0:=Tryz.isAgg0
 z0:=Tryz.sizeOf0
 v0:=Tryz.zeroValue0
 t3:=Tryz.underlying3
 a3:=Tryz.isAgg3
 z3:=Tryz.sizeOf3
 v3:=Tryz.zeroValue3
 t4:=Tryz.underlying4
 a4:=Tryz.isAgg4
 z4:=Tryz.sizeOf4
 v4:=Tryz.zeroValue4
 t9:=Tryz.underlying9
 a9:=Tryz.isAgg9
 z9:=Tryz.sizeOf9
 v9:=Tryz.zeroValue9
 t20:=Tryz.underlying20
 a20:=Tryz.isAgg20
 z20:=Tryz.sizeOf20
 v20:=Tryz.zeroValue20
 t31:=Tryz.underlying60
 a31:=Tryz.isAgg60
 z31:=Tryz.sizeOf60
 v31:=Tryz.zeroValue60
 t37:=Tryz.underlying93
 a37:=Tryz.isAgg93
 z37:=Tryz.sizeOf93
 v37:=Tryz.zeroValue93
 t70:=Tryz.underlying113
 a70:=Tryz.isAgg113
 z70:=Tryz.sizeOf113
 v70:=Tryz.zeroValue113
 t72:=Tryz.underlying115
 a72:=Tryz.isAgg115
 z72:=Tryz.sizeOf115
 v72:=Tryz.zeroValue115
 t75:=Tryz.underlying117
 a75:=Tryz.isAgg117
 z75:=Tryz.sizeOf117
 v75:=Tryz.zeroValue117
 t76:=Tryz.underlying118
 a76:=Tryz.isAgg118
 z76:=Tryz.sizeOf118
 v76:=Tryz.zeroValue118
 t127:=Tryz.underlying159
 a127:=Tryz.isAgg159
 z127:=Tryz.sizeOf159
 v127:=Tryz.zeroValue159
 t164:=Tryz.underlying194
 a164:=Tryz.isAgg194
 z164:=Tryz.sizeOf194
 v164:=Tryz.zeroValue194
set_option maxRecDepth 100000 in
theorem lays283:Lays.n283 Tryz.prog ren where
 mixed:=by kernel_rfl
 f283:=by kernel_rfl
 t3:=Tryz.underlying3
 a3:=Tryz.isAgg3
 z3:=Tryz.sizeOf3
 v3:=Tryz.zeroValue3
 t4:=Tryz.underlying4
 a4:=Tryz.isAgg4
 z4:=Tryz.sizeOf4
 v4:=Tryz.zeroValue4
 t9:=Tryz.underlying9
 a9:=Tryz.isAgg9
 z9:=Tryz.sizeOf9
 v9:=Tryz.zeroValue9
set_option maxRecDepth 100000 in
theorem X2r:LaysM.n284 Tryz.prog ren where
 mixed:=by kernel_rfl
 f129:=by kernel_rfl
 f284:=by kernel_rfl
 f317:=by kernel_rfl
 f318:=by kernel_rfl
 t0:=Tryz.underlying0
 a0:=Tryz.isAgg0
 z0:=Tryz.sizeOf0
 v0:=Tryz.zeroValue0
 t3:=Tryz.underlying3
 a3:=Tryz.isAgg3
 z3:=Tryz.sizeOf3
 v3:=Tryz.zeroValue3
 t4:=Tryz.underlying4
 a4:=Tryz.isAgg4
 z4:=Tryz.sizeOf4
 v4:=Tryz.zeroValue4
 t5:=Tryz.underlying5
 a5:=Tryz.isAgg5
 z5:=Tryz.sizeOf5
 v5:=Tryz.zeroValue5
 t9:=Tryz.underlying9
 a9:=Tryz.isAgg9
 z9:=Tryz.sizeOf9
 v9:=Tryz.zeroValue9
 t46:=Tryz.underlying216
 a46:=Tryz.isAgg216
 z46:=Tryz.sizeOf216
 v46:=Tryz.zeroValue216
 t53:=Tryz.underlying153
 a53:=Tryz.isAgg153
 z53:=Tryz.sizeOf153
 v53:=Tryz.zeroValue153
 t212:=Tryz.underlying248
 a212:=Tryz.isAgg248
 z212:=Tryz.sizeOf248
 v212:=Tryz.zeroValue248
 g17:=by kernel_rfl
 i0:=by kernel_rfl
 i3:=by kernel_rfl
 i4:=by kernel_rfl
 i5:=by kernel_rfl
 i9:=by kernel_rfl
 i46:=by kernel_rfl
 i53:=by kernel_rfl
 i212:=by kernel_rfl
 m17:=by kernel_rfl
set_option maxRecDepth 100000 in
theorem lays285:Lays.n285 Tryz.prog ren where
 mixed:=by kernel_rfl
 f285:=by kernel_rfl
 t0:=Tryz.underlying0
 a0:=Tryz.isAgg0
 z0:=Tryz.sizeOf0
 v0:=Tryz.zeroValue0
 t3:=Tryz.underlying3
 a3:=Tryz.isAgg3
 z3:=Tryz.sizeOf3
 v3:=Tryz.zeroValue3
 t4:=Tryz.underlying4
 a4:=Tryz.isAgg4
 z4:=Tryz.sizeOf4
 v4:=Tryz.zeroValue4
 t5:=Tryz.underlying5
 a5:=Tryz.isAgg5
 z5:=Tryz.sizeOf5
 v5:=Tryz.zeroValue5
 t9:=Tryz.underlying9
 a9:=Tryz.isAgg9
 z9:=Tryz.sizeOf9
 v9:=Tryz.zeroValue9
 t37:=Tryz.underlying93
 a37:=Tryz.isAgg93
 z37:=Tryz.sizeOf93
 v37:=Tryz.zeroValue93
 t51:=Tryz.underlying100
 a51:=Tryz.isAgg100
 z51:=Tryz.sizeOf100
 v51:=Tryz.zeroValue100
 t53:=Tryz.underlying153
 a53:=Tryz.isAgg153
 z53:=Tryz.sizeOf153
 v53:=Tryz.zeroValue153

set_option maxRecDepth 100000 in
theorem extraB:Builder.Extra Tryz.prog ren where
 sizeBuilder:=by kernel_rfl
 liesBuilder:=by kernel_rfl
 t5:=Tryz.underlying5
 a5:=Tryz.isAgg5
 z5:=Tryz.sizeOf5
 v5:=Tryz.zeroValue5
 infoByte:=by kernel_rfl
 cellsByte:=by kernel_rfl
 sizeByte:=by kernel_rfl
 neB5:=by decide
set_option maxHeartbeats 6400000 in
set_option maxRecDepth 100000 in
theorem Y5c(u:Nat)(hu64:u<18446744073709551616)(w:World)(htab:Lib.TabIs Tryz.prog w "internal/strconv.uint64pow10" .u64 Lib.pow10Tab):
 Calls Tryz.prog 90 #[.int .u64 u,.int .i64 10] w fun e w'=>e= .returned (.string ⟨(Lib.decDigits u).toArray⟩)/\∃k os,w'=grow (w.drewN k) os:=by
 have e283:∀args w,(callFunc 129 args).run Tryz.prog w= .ok (.enter 129 args) w:=enters_of Tryz.func129 (by kernel_rfl) rfl;have e284:∀args w,(callFunc 130 args).run Tryz.prog w= .ok (.enter 130 args) w:=enters_of Tryz.func130 (by kernel_rfl) rfl;have e285:∀args w,(callFunc 131 args).run Tryz.prog w= .ok (.enter 131 args) w:=enters_of Tryz.func131 (by kernel_rfl) rfl
 by_cases hs:u<100
 . go_enter Tryz.func90,Tryz.ntmps90
   go_wp2_with (go_at_fn 129;refine(Any.internal_strconv_small lays283 u hs _).mono ?_;rintro e w' ⟨rfl,rfl⟩)
   go_ret
   exact⟨rfl,0,#[],by simp[World.drewN_zero]⟩
 . have hu1:1<=u:=by omega
   have hnd20:Lib.nDigits u<=20:=by have:=Lib.numDigits_eq u hu1 hu64;split at this<;>omega
   have hal:Tryz.prog.arrayLen 226=24:=by simp[Program.arrayLen,Tryz.underlying226]
   have hsl1:∀W,(Instr.sliceAt 226 (.pointer (some ⟨w.heap.size,0,none⟩)) none (some (.int .i64 (Lib.nDigits u:Int))) none).run Tryz.prog W= .ok (.slice (some ⟨w.heap.size,0,none⟩) (Lib.nDigits u) 24) W:=fun W=>by
    rw[run_sliceAt_array_h W 226 ⟨w.heap.size,0,none⟩ (by simp[Program.arrayLen,Program.elem,Tryz.underlying226]) .i64 (Lib.nDigits u:Int) (by omega) (by rw[hal];omega)]
    go_simp
   have hH0:=Lib.holds_zero0 w 226 (Lib.nDigits u) (by omega);have hfmt:=Any.internal_strconv_formatBase10 lays285 w.heap.size 0 24 u (Array.replicate (Lib.nDigits u) 0) (w.alloc (.cells Lib.zeros24 226)) hH0 (by rw[Array.size_replicate];exact Lib.lt_pow_nDigits u) hu64 (by rw[Array.size_replicate];omega);rw[Array.size_replicate]at hfmt;have HH0:=Lib.hid hH0
   clear hH0 hal
   go_enter Tryz.func90,Tryz.ntmps90
   go_wp2_with (first
    |(go_at_fn 130;refine(Any.internal_strconv_numDigits X2r u hu1 hu64 _ (Lib.tabIs_alloc htab _)).mono ?_;rintro e w' ⟨rfl,rfl⟩))
   go_at_fn 131
   refine hfmt.mono ?_;rintro e w' ⟨rfl,k,v',dk,rfl,hF⟩
   have hcv:(convert 93 9 (.slice (some ⟨w.heap.size,0,none⟩) (Lib.nDigits u) 24)).run Tryz.prog ((putRow (fun(b:UInt8)=>Value.int .u8 (b.toNat:Int)) (w.alloc (.cells Lib.zeros24 226)) w.heap.size 0 dk).drewN k)= .ok (.string ⟨(Lib.decDigits u).toArray⟩) ((putRow (fun(b:UInt8)=>Value.int .u8 (b.toNat:Int)) (w.alloc (.cells Lib.zeros24 226)) w.heap.size 0 dk).drewN k):=by
    have h:=run_convert_bytes_back (P:=Tryz.prog) ((putRow (fun(b:UInt8)=>Value.int .u8 (b.toNat:Int)) (w.alloc (.cells Lib.zeros24 226)) w.heap.size 0 dk).drewN k) 93 9 5 ⟨w.heap.size,0,none⟩ 24 (Lib.decDigits u) Tryz.underlying93 Tryz.underlying5 Tryz.underlying9 (fun j hj=>by
     rw[Lib.row_is_numeral hF j hj,Lib.add_plain,World.cell?_drewN];exact cell?_putRow (fun(b:UInt8)=>Value.int .u8 (b.toNat:Int)) _ w.heap.size 0 _ dk HH0.out (by rw[hF.size,Array.size_replicate]) j (by rw[hF.size];rw[Lib.decDigits_length]at hj;exact hj))
    rw[Lib.decDigits_length]at h;exact h
   go_wp2
   go_ret
   obtain⟨os,eo⟩:=Lib.fin_at w (.cells Lib.zeros24 226) dk k 0;exact⟨rfl,k,os,eo⟩
section
variable{g:World}{T0:TP}{w0:World}{R:X1}
theorem Z5o{p0 p1:Aa}{r:Int}(hS:Sep g T0 w0 [R])(hG:Gi T0 w0 0)(hm:strings_Index p0 p1=some r):
 Calls Tryz.prog 39 #[.string ⟨p0.toArray⟩,.string ⟨p1.toArray⟩] w0 (J6 T0 w0 fun T w v=>v= .int .i64 r/\Sep g T w [R]/\True):=by
 unfold strings_Index at hm
 split at hm
 . rename_i hl
   cases hm;obtain⟨_,m,hc⟩:=hG;refine(Any.strings_Index lays143 ⟨p0.toArray⟩ ⟨p1.toArray⟩ m w0 (by show p0.toArray.size<4294967281;simpa using hl) hc).mono ?_;rintro e w ⟨rfl,rfl⟩;exact⟨_,rfl,_,Im.refl,rfl,hS,trivial⟩
 . cases hm
theorem Y4t{p0:List (Aa)}{a1:OA}{c1:Nat}{p1 r:Aa}(hS:Sep g T0 w0 [R])(h1:SlR L9 T0 w0 (.slice a1 (List.length p0) c1) p0)(hm:strings_Join p0 p1=some r):
 Calls Tryz.prog 15 #[.slice a1 (List.length p0) c1,.string ⟨p1.toArray⟩] w0 (J6 T0 w0 fun T w v=>v= .string ⟨r.toArray⟩/\Sep g T w [R]/\True):=by
 unfold strings_Join at hm
 split at hm
 . rename_i hl
   cases hm;obtain⟨a,cap,e,hlc,hcm,hx⟩:=h1;cases e;have hd:p0=(p0.map fun x=>(⟨x.toArray⟩:ByteArray)).map (·.data.toList):=by rw[List.map_map];exact(List.map_id p0).symm
   rcases hx with rfl|⟨b,off,rfl,hT,hcells⟩
   . refine(Any.strings_Join_none X5v extraB a1 c1 ⟨p1.toArray⟩ w0).mono ?_;rintro e w ⟨rfl,rfl⟩;exact⟨_,rfl,_,Im.refl,rfl,hS,trivial⟩
   . have hlen:(p0.map fun x=>(⟨x.toArray⟩:ByteArray)).length=p0.length:=by simp
     have key:=Any.strings_Join X5v extraB b off c1 (p0.map fun x=>(⟨x.toArray⟩:ByteArray)) ⟨p1.toArray⟩ w0 (fun j x hj=>by
      rw[List.getElem?_map]at hj;cases hp:p0[j]?with
      |none=>rw[hp]at hj;cases hj
      |some y=>
       rw[hp]at hj;cases hj;obtain⟨cs,hr,hc⟩:=hcells j y hp;have hr':cs=[.string ⟨y.toArray⟩]:=hr;subst hr';have:=hc 0 _ rfl;rw[Nat.add_zero,show L9.sz=1 from rfl,Nat.mul_one]at this;exact this) (hS.lt b hT) (by rw[hlen];omega) (by rw[hlen];exact hlc) (by rw[<-hd];show(Go.Lib.join p0 p1.toArray.toList).length<=_;have:=hl.2;simp only[]at this⊢;omega)
     rw[hlen]at key;refine key.mono ?_;rintro e w ⟨rfl,hB⟩;have hj:Go.Lib.join ((p0.map fun x=>(⟨x.toArray⟩:ByteArray)).map (·.data.toList)) (⟨p1.toArray⟩:ByteArray).data.toList=Go.Lib.join p0 p1:=by rw[<-hd]
     have hK:=hS.below hB;exact⟨_,rfl,_,hK.1,by rw[hj],hK.2,trivial⟩
 . cases hm
set_option maxRecDepth 100000 in
theorem Z7o{p0 p1:Int}{r:Aa}(hS:Sep g T0 w0 [R])(hG:Gc T0 w0 1 (Lib.pow10Tab.map fun z=>Value.int .u64 z))(hm:Q7n p0 p1=some r):
 Calls Tryz.prog 59 #[.int .u64 p0,.int .i64 p1] w0 (J6 T0 w0 fun T w v=>v= .string ⟨r.toArray⟩/\Sep g T w [R]/\True):=by
 unfold Q7n at hm
 split at hm
 . rename_i hl
   obtain⟨h0,h1,rfl⟩:=hl;obtain⟨u,rfl⟩:∃u:Nat,p0=u:=⟨p0.toNat,by omega⟩;cases hm;have e89:∀args w,(callFunc 90 args).run Tryz.prog w= .ok (.enter 90 args) w:=enters_of Tryz.func90 (by kernel_rfl) rfl
   have key:Calls Tryz.prog 59 #[.int .u64 u,.int .i64 10] w0 fun e w'=>e= .returned (.string ⟨(Lib.itoa u).toArray⟩)/\∃k os,w'=grow (w0.drewN k) os:=by
    go_enter Tryz.func59,Tryz.ntmps59
    go_wp2_with (go_at_fn 90;refine(Y5c u (by omega) _ (hG.var X2r.m17)).mono ?_;rintro e w' ⟨rfl,k,os,rfl⟩)
    go_ret
    exact⟨by rw[Lib.itoa_nonneg];rfl,k,os,rfl⟩
   refine key.mono ?_;rintro e w ⟨rfl,k,os,rfl⟩;have hK:=hS.below (Lib.below_grow _ _ (Nat.le_refl _) k os);exact⟨_,rfl,_,hK.1,rfl,hK.2,trivial⟩
 . cases hm
end
end Go.Proofs.YtjohcgibbiebkaaGreatDoor
