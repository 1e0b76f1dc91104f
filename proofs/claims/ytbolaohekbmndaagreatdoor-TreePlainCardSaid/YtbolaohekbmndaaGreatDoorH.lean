/- Contracts of the library's functions that package tree calls: strings.Index, strings.Join, strconv.FormatUint at base 10. -/
import Derived.Test.YtbolaohekbmndaaGreatDoorRows
import Derived.Test.YtbolaohekbmndaaGreatDoorErr
import Derived.Test.YtbolaohekbmndaaGreatDoorArr
import Derived.Test.YtbolaohekbmndaaGreatDoorStr
import Derived.Test.YtbolaohekbmndaaGreatDoorM
import Derived.Shelf.Strings.Search3
import Derived.Shelf.Strings.OnBuilder
import Derived.Shelf.Strconv.Itoa3
import Derived.Lib.AppendIntMem
set_option linter.unusedVariables false
namespace Go.Proofs.YtbolaohekbmndaaGreatDoor
open Go.Shelf Go.RowKit Go.Sort Go.Lib
def ren:Go.Shelf.Ren:=⟨fun x=>match x with | 129=>118 | 143=>49 | 156=>26 | 165=>45 | 166=>46 | 169=>47 | 217=>94 | 219=>79 | 224=>96 | 225=>95 | 240=>76 | 241=>77 | 266=>113 | 267=>97 | 276=>92 | 277=>93 | 283=>109 | 284=>110 | 285=>111 | 314=>114 | 317=>117 | 318=>119 | x=>x,fun x=>match x with | 0=>0 | 3=>3 | 4=>4 | 5=>5 | 9=>9 | 20=>20 | 31=>74 | 37=>112 | 46=>154 | 51=>87 | 53=>134 | 70=>111 | 72=>114 | 75=>116 | 76=>117 | 80=>119 | 127=>138 | 146=>169 | 164=>149 | 212=>172 | x=>x,fun x=>match x with | 1=>0 | 17=>1 | x=>x⟩
set_option maxRecDepth 100000 in
theorem lays143:Lays.n143 Tryz.prog ren where
  mixed:=by kernel_rfl
  f143:=by kernel_rfl
  f217:=by kernel_rfl
  f219:=by kernel_rfl
  f224:=by kernel_rfl
  f225:=by kernel_rfl
  f266:=by kernel_rfl
  f267:=by kernel_rfl
  f314:=by kernel_rfl
  t3:=Tryz.underlying3
  a3:=Tryz.isAgg3
  z3:=Tryz.sizeOf3
  v3:=Tryz.zeroValue3
  t4:=Tryz.underlying4
  a4:=Tryz.isAgg4
  z4:=Tryz.sizeOf4
  v4:=Tryz.zeroValue4
  t5:=Tryz.underlying5
  a5:=Tryz.isAgg5
  z5:=Tryz.sizeOf5
  v5:=Tryz.zeroValue5
  t9:=Tryz.underlying9
  a9:=Tryz.isAgg9
  z9:=Tryz.sizeOf9
  v9:=Tryz.zeroValue9
  t46:=Tryz.underlying154
  a46:=Tryz.isAgg154
  z46:=Tryz.sizeOf154
  v46:=Tryz.zeroValue154
  t51:=Tryz.underlying87
  a51:=Tryz.isAgg87
  z51:=Tryz.sizeOf87
  v51:=Tryz.zeroValue87
  t146:=Tryz.underlying169
  a146:=Tryz.isAgg169
  z146:=Tryz.sizeOf169
  v146:=Tryz.zeroValue169
  g1:=by kernel_rfl
set_option maxRecDepth 100000 in
theorem Z6p:Lays.n156 Tryz.prog ren where
  mixed:=by kernel_rfl
  f156:=by kernel_rfl
  f165:=by kernel_rfl
  f166:=by kernel_rfl
  f169:=by kernel_rfl
  f240:=by kernel_rfl
  f241:=by kernel_rfl
  f276:=by kernel_rfl
  f277:=by kernel_rfl
  t0:=Tryz.underlying0
  a0:=Tryz.isAgg0
  z0:=Tryz.sizeOf0
  v0:=Tryz.zeroValue0
  t3:=Tryz.underlying3
  a3:=Tryz.isAgg3
  z3:=Tryz.sizeOf3
  v3:=Tryz.zeroValue3
  t4:=Tryz.underlying4
  a4:=Tryz.isAgg4
  z4:=Tryz.sizeOf4
  v4:=Tryz.zeroValue4
  t9:=Tryz.underlying9
  a9:=Tryz.isAgg9
  z9:=Tryz.sizeOf9
  v9:=Tryz.zeroValue9
  t20:=Tryz.underlying20
  a20:=Tryz.isAgg20
  z20:=Tryz.sizeOf20
  v20:=Tryz.zeroValue20
  t31:=Tryz.underlying74
  a31:=Tryz.isAgg74
  z31:=Tryz.sizeOf74
  v31:=Tryz.zeroValue74
  t37:=Tryz.underlying112
  a37:=Tryz.isAgg112
  z37:=Tryz.sizeOf112
  v37:=Tryz.zeroValue112
  t70:=Tryz.underlying111
  a70:=Tryz.isAgg111
  z70:=Tryz.sizeOf111
  v70:=Tryz.zeroValue111
  t72:=Tryz.underlying114
  a72:=Tryz.isAgg114
  z72:=Tryz.sizeOf114
  v72:=Tryz.zeroValue114
  t75:=Tryz.underlying116
  a75:=Tryz.isAgg116
  z75:=Tryz.sizeOf116
  v75:=Tryz.zeroValue116
  t76:=Tryz.underlying117
  a76:=Tryz.isAgg117
  z76:=Tryz.sizeOf117
  v76:=Tryz.zeroValue117
  t127:=Tryz.underlying138
  a127:=Tryz.isAgg138
  z127:=Tryz.sizeOf138
  v127:=Tryz.zeroValue138
  t164:=Tryz.underlying149
  a164:=Tryz.isAgg149
  z164:=Tryz.sizeOf149
  v164:=Tryz.zeroValue149
set_option maxRecDepth 100000 in
theorem lays283:Lays.n283 Tryz.prog ren where
  mixed:=by kernel_rfl
  f283:=by kernel_rfl
  t3:=Tryz.underlying3
  a3:=Tryz.isAgg3
  z3:=Tryz.sizeOf3
  v3:=Tryz.zeroValue3
  t4:=Tryz.underlying4
  a4:=Tryz.isAgg4
  z4:=Tryz.sizeOf4
  v4:=Tryz.zeroValue4
  t9:=Tryz.underlying9
  a9:=Tryz.isAgg9
  z9:=Tryz.sizeOf9
  v9:=Tryz.zeroValue9
set_option maxRecDepth 100000 in
theorem Z4t:LaysM.n284 Tryz.prog ren where
  mixed:=by kernel_rfl
  f129:=by kernel_rfl
  f284:=by kernel_rfl
  f317:=by kernel_rfl
  f318:=by kernel_rfl
  t0:=Tryz.underlying0
  a0:=Tryz.isAgg0
  z0:=Tryz.sizeOf0
  v0:=Tryz.zeroValue0
  t3:=Tryz.underlying3
  a3:=Tryz.isAgg3
  z3:=Tryz.sizeOf3
  v3:=Tryz.zeroValue3
  t4:=Tryz.underlying4
  a4:=Tryz.isAgg4
  z4:=Tryz.sizeOf4
  v4:=Tryz.zeroValue4
  t5:=Tryz.underlying5
  a5:=Tryz.isAgg5
  z5:=Tryz.sizeOf5
  v5:=Tryz.zeroValue5
  t9:=Tryz.underlying9
  a9:=Tryz.isAgg9
  z9:=Tryz.sizeOf9
  v9:=Tryz.zeroValue9
  t46:=Tryz.underlying154
  a46:=Tryz.isAgg154
  z46:=Tryz.sizeOf154
  v46:=Tryz.zeroValue154
  t53:=Tryz.underlying134
  a53:=Tryz.isAgg134
  z53:=Tryz.sizeOf134
  v53:=Tryz.zeroValue134
  t212:=Tryz.underlying172
  a212:=Tryz.isAgg172
  z212:=Tryz.sizeOf172
  v212:=Tryz.zeroValue172
  g17:=by kernel_rfl
  i0:=by kernel_rfl
  i3:=by kernel_rfl
  i4:=by kernel_rfl
  i5:=by kernel_rfl
  i9:=by kernel_rfl
  i46:=by kernel_rfl
  i53:=by kernel_rfl
  i212:=by kernel_rfl
  m17:=by kernel_rfl
set_option maxRecDepth 100000 in
theorem lays285:Lays.n285 Tryz.prog ren where
  mixed:=by kernel_rfl
  f285:=by kernel_rfl
  t0:=Tryz.underlying0
  a0:=Tryz.isAgg0
  z0:=Tryz.sizeOf0
  v0:=Tryz.zeroValue0
  t3:=Tryz.underlying3
  a3:=Tryz.isAgg3
  z3:=Tryz.sizeOf3
  v3:=Tryz.zeroValue3
  t4:=Tryz.underlying4
  a4:=Tryz.isAgg4
  z4:=Tryz.sizeOf4
  v4:=Tryz.zeroValue4
  t5:=Tryz.underlying5
  a5:=Tryz.isAgg5
  z5:=Tryz.sizeOf5
  v5:=Tryz.zeroValue5
  t9:=Tryz.underlying9
  a9:=Tryz.isAgg9
  z9:=Tryz.sizeOf9
  v9:=Tryz.zeroValue9
  t37:=Tryz.underlying112
  a37:=Tryz.isAgg112
  z37:=Tryz.sizeOf112
  v37:=Tryz.zeroValue112
  t51:=Tryz.underlying87
  a51:=Tryz.isAgg87
  z51:=Tryz.sizeOf87
  v51:=Tryz.zeroValue87
  t53:=Tryz.underlying134
  a53:=Tryz.isAgg134
  z53:=Tryz.sizeOf134
  v53:=Tryz.zeroValue134

set_option maxRecDepth 100000 in
theorem extraB:Builder.Extra Tryz.prog ren where
  sizeBuilder:=by kernel_rfl
  liesBuilder:=by kernel_rfl
  t5:=Tryz.underlying5
  a5:=Tryz.isAgg5
  z5:=Tryz.sizeOf5
  v5:=Tryz.zeroValue5
  infoByte:=by kernel_rfl
  cellsByte:=by kernel_rfl
  sizeByte:=by kernel_rfl
  neB5:=by decide
set_option maxHeartbeats 6400000 in
set_option maxRecDepth 100000 in
theorem Q9x (u : Nat) (hu64 : u < 18446744073709551616) (w : World) (htab : Lib.TabIs Tryz.prog w "internal/strconv.uint64pow10" .u64 Lib.pow10Tab) :
    Calls Tryz.prog 89 #[.int .u64 u,.int .i64 10] w fun e w' => e = .returned (.string ⟨(Lib.decDigits u).toArray⟩) ∧ ∃ k os,w' = grow (w.drewN k) os:=by
  have e283 : ∀ args w,(callFunc 109 args).run Tryz.prog w = .ok (.enter 109 args) w:=enters_of Tryz.func109 (by kernel_rfl) rfl
  have e284 : ∀ args w,(callFunc 110 args).run Tryz.prog w = .ok (.enter 110 args) w:=enters_of Tryz.func110 (by kernel_rfl) rfl
  have e285 : ∀ args w,(callFunc 111 args).run Tryz.prog w = .ok (.enter 111 args) w:=enters_of Tryz.func111 (by kernel_rfl) rfl
  by_cases hs:u < 100
  · go_enter Tryz.func89,Tryz.ntmps89
    go_wp2_with (go_at_fn 109; refine(Any.internal_strconv_small lays283 u hs _).mono ?_; rintro e w' ⟨rfl,rfl⟩)
    go_ret
    exact⟨rfl,0,#[],by simp [World.drewN_zero]⟩
  · have hu1:1≤u:=by omega
    have hnd20:Lib.nDigits u≤20:=by have:=Lib.numDigits_eq u hu1 hu64; split at this <;> omega
    have hal:Tryz.prog.arrayLen 164=24:=by simp [Program.arrayLen,Tryz.underlying164]
    have hsl1 : ∀ W,(Instr.sliceAt 164 (.pointer (some ⟨w.heap.size,0,none⟩)) none (some (.int .i64 (Lib.nDigits u:Int))) none).run Tryz.prog W = .ok (.slice (some ⟨w.heap.size,0,none⟩) (Lib.nDigits u) 24) W:=fun W=>by
      rw [run_sliceAt_array_h W 164 ⟨w.heap.size,0,none⟩ (by simp [Program.arrayLen,Program.elem,Tryz.underlying164]) .i64 (Lib.nDigits u:Int) (by omega) (by rw [hal]; omega)]
      go_simp
    have hH0:=Lib.holds_zero0 w 164 (Lib.nDigits u) (by omega)
    have hfmt:=Any.internal_strconv_formatBase10 lays285 w.heap.size 0 24 u (Array.replicate (Lib.nDigits u) 0) (w.alloc (.cells Lib.zeros24 164)) hH0 (by rw [Array.size_replicate]; exact Lib.lt_pow_nDigits u) hu64 (by rw [Array.size_replicate]; omega)
    rw [Array.size_replicate] at hfmt
    have HH0:=Lib.hid hH0
    clear hH0 hal
    go_enter Tryz.func89,Tryz.ntmps89
    go_wp2_with (first
      | (go_at_fn 110; refine(Any.internal_strconv_numDigits Z4t u hu1 hu64 _ (Lib.tabIs_alloc htab _)).mono ?_; rintro e w' ⟨rfl,rfl⟩))
    go_at_fn 111
    refine hfmt.mono ?_
    rintro e w' ⟨rfl,k,v',dk,rfl,hF⟩
    have hcv:(convert 112 9 (.slice (some ⟨w.heap.size,0,none⟩) (Lib.nDigits u) 24)).run Tryz.prog ((putRow (fun(b:UInt8)=>Value.int .u8 (b.toNat:Int)) (w.alloc (.cells Lib.zeros24 164)) w.heap.size 0 dk).drewN k) = .ok (.string ⟨(Lib.decDigits u).toArray⟩) ((putRow (fun(b:UInt8)=>Value.int .u8 (b.toNat:Int)) (w.alloc (.cells Lib.zeros24 164)) w.heap.size 0 dk).drewN k):=by
      have h:=run_convert_bytes_back (P:=Tryz.prog) ((putRow (fun(b:UInt8)=>Value.int .u8 (b.toNat:Int)) (w.alloc (.cells Lib.zeros24 164)) w.heap.size 0 dk).drewN k) 112 9 5 ⟨w.heap.size,0,none⟩ 24 (Lib.decDigits u) Tryz.underlying112 Tryz.underlying5 Tryz.underlying9 (fun j hj=>by
        rw [Lib.row_is_numeral hF j hj,Lib.add_plain,World.cell?_drewN]
        exact cell?_putRow (fun(b:UInt8)=>Value.int .u8 (b.toNat:Int)) _ w.heap.size 0 _ dk HH0.out (by rw [hF.size,Array.size_replicate]) j (by rw [hF.size]; rw [Lib.decDigits_length] at hj; exact hj))
      rw [Lib.decDigits_length] at h
      exact h
    go_wp2
    go_ret
    obtain⟨os,eo⟩:=Lib.fin_at w (.cells Lib.zeros24 164) dk k 0
    exact⟨rfl,k,os,eo⟩
section
variable {g:World} {T0:Nat→Prop} {w0:World} {R:J7}
theorem Q4v {p0 p1:List UInt8} {r:Int} (hS:Sep g T0 w0 [R]) (hG:Gi T0 w0 0) (hm:strings_Index p0 p1=some r) :
    Calls Tryz.prog 49 #[.string ⟨p0.toArray⟩,.string ⟨p1.toArray⟩] w0 (E6 T0 w0 fun T w v=>v = .int .i64 r∧Sep g T w [R]∧True):=by
  unfold strings_Index at hm
  split at hm
  · rename_i hl
    cases hm
    obtain⟨_,m,hc⟩:=hG
    refine(Any.strings_Index lays143 ⟨p0.toArray⟩ ⟨p1.toArray⟩ m w0 (by show p0.toArray.size < 4294967281; simpa using hl) hc).mono ?_
    rintro e w ⟨rfl,rfl⟩
    exact⟨_,rfl,_,Im.refl,rfl,hS,trivial⟩
  · cases hm
theorem Q9t {p0:List (List UInt8)} {a1:Option Addr} {c1:Nat} {p1 r:List UInt8} (hS:Sep g T0 w0 [R]) (h1:SlR G9 T0 w0 (.slice a1 (List.length p0) c1) p0) (hm:strings_Join p0 p1=some r) :
    Calls Tryz.prog 26 #[.slice a1 (List.length p0) c1,.string ⟨p1.toArray⟩] w0 (E6 T0 w0 fun T w v=>v = .string ⟨r.toArray⟩∧Sep g T w [R]∧True):=by
  unfold strings_Join at hm
  split at hm
  · rename_i hl
    cases hm
    obtain⟨a,cap,e,hlc,hcm,hx⟩:=h1
    cases e
    have hd:p0=(p0.map fun x=>(⟨x.toArray⟩:ByteArray)).map (·.data.toList):=by rw [List.map_map]; exact(List.map_id p0).symm
    rcases hx with rfl | ⟨b,off,rfl,hT,hcells⟩
    · refine(Any.strings_Join_none Z6p extraB a1 c1 ⟨p1.toArray⟩ w0).mono ?_
      rintro e w ⟨rfl,rfl⟩
      exact⟨_,rfl,_,Im.refl,rfl,hS,trivial⟩
    · have hlen:(p0.map fun x=>(⟨x.toArray⟩:ByteArray)).length=p0.length:=by simp
      have key:=Any.strings_Join Z6p extraB b off c1 (p0.map fun x=>(⟨x.toArray⟩:ByteArray)) ⟨p1.toArray⟩ w0 (fun j x hj=>by
          rw [List.getElem?_map] at hj
          cases hp:p0[j]? with
          | none=>rw [hp] at hj; cases hj
          | some y =>
            rw [hp] at hj
            cases hj
            obtain⟨cs,hr,hc⟩:=hcells j y hp
            have hr' : cs = [.string ⟨y.toArray⟩]:=hr
            subst hr'
            have:=hc 0 _ rfl
            rw [Nat.add_zero,show G9.sz=1 from rfl,Nat.mul_one] at this
            exact this) (hS.lt b hT) (by rw [hlen]; omega) (by rw [hlen]; exact hlc) (by rw [← hd]; show (Go.Lib.join p0 p1.toArray.toList).length≤_; have:=hl.2; simp only [List.toList_toArray] at this ⊢; omega)
      rw [hlen] at key
      refine key.mono ?_
      rintro e w ⟨rfl,hB⟩
      have hj:Go.Lib.join ((p0.map fun x=>(⟨x.toArray⟩:ByteArray)).map (·.data.toList)) (⟨p1.toArray⟩:ByteArray).data.toList=Go.Lib.join p0 p1:=by rw [← hd]
      have hK:=hS.below hB
      exact⟨_,rfl,_,hK.1,by rw [hj],hK.2,trivial⟩
  · cases hm
set_option maxRecDepth 100000 in
theorem Q5p {p0 p1:Int} {r:List UInt8} (hS:Sep g T0 w0 [R]) (hG:Gc T0 w0 1 (Lib.pow10Tab.map fun z=>Value.int .u64 z)) (hm:Q0l p0 p1=some r) :
    Calls Tryz.prog 71 #[.int .u64 p0,.int .i64 p1] w0 (E6 T0 w0 fun T w v=>v = .string ⟨r.toArray⟩∧Sep g T w [R]∧True):=by
  unfold Q0l at hm
  split at hm
  · rename_i hl
    obtain⟨h0,h1,rfl⟩:=hl
    obtain⟨u,rfl⟩ : ∃ u:Nat,p0=u:=⟨p0.toNat,by omega⟩
    cases hm
    have e89 : ∀ args w,(callFunc 89 args).run Tryz.prog w = .ok (.enter 89 args) w:=enters_of Tryz.func89 (by kernel_rfl) rfl
    have key:Calls Tryz.prog 71 #[.int .u64 u,.int .i64 10] w0 fun e w' => e = .returned (.string ⟨(Lib.itoa u).toArray⟩) ∧ ∃ k os,w' = grow (w0.drewN k) os:=by
      go_enter Tryz.func71,Tryz.ntmps71
      go_wp2_with (go_at_fn 89; refine(Q9x u (by omega) _ (hG.var Z4t.m17)).mono ?_; rintro e w' ⟨rfl,k,os,rfl⟩)
      go_ret
      exact⟨by rw [Lib.itoa_nonneg]; rfl,k,os,rfl⟩
    refine key.mono ?_
    rintro e w ⟨rfl,k,os,rfl⟩
    have hK:=hS.below (Lib.below_grow _ _ (Nat.le_refl _) k os)
    exact⟨_,rfl,_,hK.1,rfl,hK.2,trivial⟩
  · cases hm
end
end Go.Proofs.YtbolaohekbmndaaGreatDoor
