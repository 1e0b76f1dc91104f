/- Layer 34, the page's example: what the evaluator takes as known (an instruction's shape, its decoding: by their walks), and the compiler's run. -/
import Derived.Test.YtecakklofhfphaaGreatDoorKRow
import Derived.Test.YtecakklofhfphaaGreatDoorKAwk
import Derived.Test.YtecakklofhfphaaGreatDoorKAmd
import Derived.Test.YtecakklofhfphaaGreatDoorKWa
set_option linter.unusedVariables false
namespace Go.Proofs.YtecakklofhfphaaGreatDoor
open Go.Shelf
def ren:Go.Shelf.Ren:=⟨fun x=>match x with | 129=>497 | 143=>187 | 169=>143 | 217=>406 | 219=>312 | 224=>408 | 225=>407 | 240=>240 | 243=>241 | 246=>371 | 266=>517 | 267=>409 | 276=>370 | 283=>479 | 284=>480 | 285=>481 | 286=>482 | 314=>518 | 317=>558 | 318=>559 | 319=>560 | 320=>561 | 337=>612 | 338=>613 | x=>x,fun x=>match x with | 0=>0 | 2=>2 | 3=>3 | 4=>4 | 5=>5 | 9=>9 | 20=>20 | 37=>23 | 46=>293 | 51=>59 | 53=>405 | 70=>269 | 72=>271 | 127=>363 | 146=>388 | 164=>461 | 171=>548 | 173=>551 | 212=>610 | 213=>611 | 232=>659 | 233=>660 | x=>x,fun x=>match x with | 1=>0 | 17=>1 | 18=>2 | 19=>3 | x=>x⟩
set_option maxRecDepth 100000 in
theorem lays143:Lays.n143 Tryz.prog ren where
  mixed:=by kernel_rfl
  f143:=by kernel_rfl
  f217:=by kernel_rfl
  f219:=by kernel_rfl
  f224:=by kernel_rfl
  f225:=by kernel_rfl
  f266:=by kernel_rfl
  f267:=by kernel_rfl
  f314:=by kernel_rfl
  t3:=Tryz.underlying3
  a3:=Tryz.isAgg3
  z3:=Tryz.sizeOf3
  v3:=Tryz.zeroValue3
  t4:=Tryz.underlying4
  a4:=Tryz.isAgg4
  z4:=Tryz.sizeOf4
  v4:=Tryz.zeroValue4
  t5:=Tryz.underlying5
  a5:=Tryz.isAgg5
  z5:=Tryz.sizeOf5
  v5:=Tryz.zeroValue5
  t9:=Tryz.underlying9
  a9:=Tryz.isAgg9
  z9:=Tryz.sizeOf9
  v9:=Tryz.zeroValue9
  t46:=Tryz.underlying293
  a46:=Tryz.isAgg293
  z46:=Tryz.sizeOf293
  v46:=Tryz.zeroValue293
  t51:=Tryz.underlying59
  a51:=Tryz.isAgg59
  z51:=Tryz.sizeOf59
  v51:=Tryz.zeroValue59
  t146:=Tryz.underlying388
  a146:=Tryz.isAgg388
  z146:=Tryz.sizeOf388
  v146:=Tryz.zeroValue388
  g1:=by kernel_rfl
set_option maxRecDepth 100000 in
theorem lays169:Lays.n169 Tryz.prog ren where
  mixed:=by kernel_rfl
  f169:=by kernel_rfl
  t0:=Tryz.underlying0
  a0:=Tryz.isAgg0
  z0:=Tryz.sizeOf0
  v0:=Tryz.zeroValue0
  t3:=Tryz.underlying3
  a3:=Tryz.isAgg3
  z3:=Tryz.sizeOf3
  v3:=Tryz.zeroValue3
  t9:=Tryz.underlying9
  a9:=Tryz.isAgg9
  z9:=Tryz.sizeOf9
  v9:=Tryz.zeroValue9
  t37:=Tryz.underlying23
  a37:=Tryz.isAgg23
  z37:=Tryz.sizeOf23
  v37:=Tryz.zeroValue23
  t70:=Tryz.underlying269
  a70:=Tryz.isAgg269
  z70:=Tryz.sizeOf269
  v70:=Tryz.zeroValue269
  t72:=Tryz.underlying271
  a72:=Tryz.isAgg271
  z72:=Tryz.sizeOf271
  v72:=Tryz.zeroValue271
  t127:=Tryz.underlying363
  a127:=Tryz.isAgg363
  z127:=Tryz.sizeOf363
  v127:=Tryz.zeroValue363
set_option maxRecDepth 100000 in
theorem lays240:Lays.n240 Tryz.prog ren where
  mixed:=by kernel_rfl
  f240:=by kernel_rfl
  f276:=by kernel_rfl
  t0:=Tryz.underlying0
  a0:=Tryz.isAgg0
  z0:=Tryz.sizeOf0
  v0:=Tryz.zeroValue0
  t4:=Tryz.underlying4
  a4:=Tryz.isAgg4
  z4:=Tryz.sizeOf4
  v4:=Tryz.zeroValue4
  t9:=Tryz.underlying9
  a9:=Tryz.isAgg9
  z9:=Tryz.sizeOf9
  v9:=Tryz.zeroValue9
  t20:=Tryz.underlying20
  a20:=Tryz.isAgg20
  z20:=Tryz.sizeOf20
  v20:=Tryz.zeroValue20
  t70:=Tryz.underlying269
  a70:=Tryz.isAgg269
  z70:=Tryz.sizeOf269
  v70:=Tryz.zeroValue269
  t72:=Tryz.underlying271
  a72:=Tryz.isAgg271
  z72:=Tryz.sizeOf271
  v72:=Tryz.zeroValue271
  t164:=Tryz.underlying461
  a164:=Tryz.isAgg461
  z164:=Tryz.sizeOf461
  v164:=Tryz.zeroValue461
set_option maxRecDepth 100000 in
theorem laysM243:LaysM.n243 Tryz.prog ren where
  mixed:=by kernel_rfl
  f129:=by kernel_rfl
  f243:=by kernel_rfl
  f246:=by kernel_rfl
  f283:=by kernel_rfl
  f284:=by kernel_rfl
  f285:=by kernel_rfl
  f286:=by kernel_rfl
  f317:=by kernel_rfl
  f318:=by kernel_rfl
  f319:=by kernel_rfl
  f320:=by kernel_rfl
  f337:=by kernel_rfl
  f338:=by kernel_rfl
  t0:=Tryz.underlying0
  a0:=Tryz.isAgg0
  z0:=Tryz.sizeOf0
  v0:=Tryz.zeroValue0
  t2:=Tryz.underlying2
  a2:=Tryz.isAgg2
  z2:=Tryz.sizeOf2
  v2:=Tryz.zeroValue2
  t3:=Tryz.underlying3
  a3:=Tryz.isAgg3
  z3:=Tryz.sizeOf3
  v3:=Tryz.zeroValue3
  t4:=Tryz.underlying4
  a4:=Tryz.isAgg4
  z4:=Tryz.sizeOf4
  v4:=Tryz.zeroValue4
  t5:=Tryz.underlying5
  a5:=Tryz.isAgg5
  z5:=Tryz.sizeOf5
  v5:=Tryz.zeroValue5
  t9:=Tryz.underlying9
  a9:=Tryz.isAgg9
  z9:=Tryz.sizeOf9
  v9:=Tryz.zeroValue9
  t20:=Tryz.underlying20
  a20:=Tryz.isAgg20
  z20:=Tryz.sizeOf20
  v20:=Tryz.zeroValue20
  t37:=Tryz.underlying23
  a37:=Tryz.isAgg23
  z37:=Tryz.sizeOf23
  v37:=Tryz.zeroValue23
  t46:=Tryz.underlying293
  a46:=Tryz.isAgg293
  z46:=Tryz.sizeOf293
  v46:=Tryz.zeroValue293
  t51:=Tryz.underlying59
  a51:=Tryz.isAgg59
  z51:=Tryz.sizeOf59
  v51:=Tryz.zeroValue59
  t53:=Tryz.underlying405
  a53:=Tryz.isAgg405
  z53:=Tryz.sizeOf405
  v53:=Tryz.zeroValue405
  t171:=Tryz.underlying548
  a171:=Tryz.isAgg548
  z171:=Tryz.sizeOf548
  v171:=Tryz.zeroValue548
  t173:=Tryz.underlying551
  a173:=Tryz.isAgg551
  z173:=Tryz.sizeOf551
  v173:=Tryz.zeroValue551
  t212:=Tryz.underlying610
  a212:=Tryz.isAgg610
  z212:=Tryz.sizeOf610
  v212:=Tryz.zeroValue610
  t213:=Tryz.underlying611
  a213:=Tryz.isAgg611
  z213:=Tryz.sizeOf611
  t232:=Tryz.underlying659
  a232:=Tryz.isAgg659
  z232:=Tryz.sizeOf659
  v232:=Tryz.zeroValue659
  t233:=Tryz.underlying660
  a233:=Tryz.isAgg660
  z233:=Tryz.sizeOf660
  v233:=Tryz.zeroValue660
  g17:=by kernel_rfl
  g18:=by kernel_rfl
  g19:=by kernel_rfl
  i0:=by kernel_rfl
  i2:=by kernel_rfl
  i3:=by kernel_rfl
  i4:=by kernel_rfl
  i5:=by kernel_rfl
  i9:=by kernel_rfl
  i20:=by kernel_rfl
  i37:=by kernel_rfl
  i46:=by kernel_rfl
  i51:=by kernel_rfl
  i53:=by kernel_rfl
  i171:=by kernel_rfl
  i173:=by kernel_rfl
  i212:=by kernel_rfl
  i232:=by kernel_rfl
  i233:=by kernel_rfl
  m17:=by kernel_rfl
  m18:=by kernel_rfl
  m19:=by kernel_rfl

set_option maxRecDepth 100000 in
theorem extraB:Builder.Extra Tryz.prog ren where
  sizeBuilder:=by kernel_rfl
  liesBuilder:=by kernel_rfl
  t5:=Tryz.underlying5
  a5:=Tryz.isAgg5
  z5:=Tryz.sizeOf5
  v5:=Tryz.zeroValue5
  infoByte:=by kernel_rfl
  cellsByte:=by kernel_rfl
  sizeByte:=by kernel_rfl
  neB5:=by decide
theorem Z8u {w w' : World} {T:Nat→Prop} {G:List Z4} (im:Im (Z3h w) w T w') (hS:Sep w T w' G):Go.RowKit.Below w.heap.size w w' := by
  refine⟨hS.os,hS.tape,hS.output,?_,fun k hk=>(im k hk).2⟩
  by_cases h:w.heap.size=0
  · omega
  · have:=hS.lt _ (im (w.heap.size - 1) (by show _ < _; omega)).1
    omega
section
open AMX
def decF (args:List AV) (h:Hp):Rv:=match args with
  | [.int .u32 n]=>match E6 n with
    | some r => .ok (.tup [.agg [.int .i64 r.1.Op,.int .i64 r.1.Rd,.int .i64 r.1.Rs1,.int .i64 r.1.Rs2,.int .i64 r.1.Imm],.int .i64 r.2]) h
    | none => .bad
  | _ => .bad
def ofF (args:List AV) (h:Hp):Rv:=match args with
  | [.int .i64 n]=>match Q7f n with
    | some r => .ok (.agg [.str r.name,.int .u8 r.form,.int .u32 r.code,.int .u32 r.third,.int .u32 r.seventh]) h
    | none => .bad
  | _ => .bad
theorem dec_ok (B:AMX.Br) (args:List AV) (h:Hp) (v:AV) (h' : Hp) (hr:decF args h = .ok v h'):CallAt B Tryz.prog 47 args h v h' := by
  intro φ w vs hv H
  refine⟨fun w=>enters_of Tryz.func47 (by kernel_rfl) rfl _ w,?_⟩
  unfold decF at hr
  split at hr <;> first | (cases hr; done) | skip
  split at hr <;> first | (cases hr; done) | skip
  rename_i r hm
  cases hr
  simp only [VRs,VR] at hv
  obtain⟨_,_,rfl,rfl,rfl⟩:=hv
  refine(A1 (Z9j w) _ hm).mono ?_
  rintro e w' ⟨_,rfl,T,im,rfl,hS,_⟩
  obtain⟨h1,h2⟩:=H.below (Z8u im hS)
  exact⟨φ,_,rfl,by simp [VR,VRs,U4,AV.one,P1,iv],h1,h2⟩
theorem of_ok (B:AMX.Br) (args:List AV) (h:Hp) (v:AV) (h' : Hp) (hr:ofF args h = .ok v h'):CallAt B Tryz.prog 91 args h v h' := by
  intro φ w vs hv H
  refine⟨fun w=>enters_of Tryz.func91 (by kernel_rfl) rfl _ w,?_⟩
  unfold ofF at hr
  split at hr <;> first | (cases hr; done) | skip
  split at hr <;> first | (cases hr; done) | skip
  rename_i r hm
  cases hr
  simp only [VRs,VR] at hv
  obtain⟨_,_,rfl,rfl,rfl⟩:=hv
  refine(Q8z (Z9j w) _ hm).mono ?_
  rintro e w' ⟨_,rfl,T,im,rfl,hS,_⟩
  obtain⟨h1,h2⟩:=H.below (Z8u im hS)
  exact⟨φ,_,rfl,by simp [VR,VRs,U4,AV.one,S7],h1,h2⟩
def awL:List Nat := [4,5,9,10,11,12,13,19,20,21,23,24,25,27,28,32,33,34,35,36,38,39,40,41,42,43,44,45,46,48,49,50,51,64,65,66,67,68,69,70,71,72,73,74,75,76,77,78,79,80,81,82,83,84,86,87,88,89,90,92,93,94,95,115,116,117,118,119,120,121,123,124,125,126,127,128,129,130,131,132,133,134,136,137,138,139,140,141,142,144,145,146,147,149,150,151,152,153,154,155,156,157,158,159,160,161,162,163,164,165,167,168,169,170,171,172,186,188,189,190,191,192,193,194,196,197,198,199,200,201,203,205,206,212,215,216,219,220,221,222,224,225,226,227,228,229,230,234,235,236,237,238,239,242,243,244,245,246,247,248,249,250,251,252,254,255,256,257,258,259,260,261,262,263,264,265,266,267,268,269,270,271,272,273,274,275,276,278,279,280,281,282,284,286,289,291,293,294,295,296,297,299,300,311,313,315,317,319,320,321,326,333,334,339,340,341,342,348,349,350,355,356,358,359,360,361,362,363,364,365,366,367,368,372,373,374,375,376,377,378,379,380,381,384,385,386,387,388,389,390,393,394,395,396,401,410,411,412,413,416,418,420,429,430,433,434,437,444,445,455,456,458,464,465,466,468,469,470,472,473,474,475,476,477,478,483,484,485,486,487,488,497,498,499,500,501,502,503,504,505,506,507,508,509,510,511,512,513,515,516,519,520,528,531,539,540,544,545,546,549,551,552,553,554,555,562,563,564,570,571,572,573,574,575,576,578,579,581,586,595,596,606,607,608,610,614,616,618,626,630]
set_option maxRecDepth 1000000 in
theorem awS:allS Tryz.prog awL=true:=by kernel_rfl
theorem mixP:Tryz.prog.follows .mixedOrders=true:=by kernel_rfl
noncomputable def awPm:List Pm := [⟨47,decF⟩,⟨91,ofF⟩,⟨240,cckF 271⟩,⟨143,strF 271 5⟩,⟨241,itoaF⟩]
theorem Z6y:PmOk (Pow10 Tryz.prog) Tryz.prog awPm:=Q7a (fun B _=>dec_ok B) (Q7a (fun B _=>of_ok B) (bldPm_ok lays240 lays169 laysM243 extraB))
namespace Ct
abbrev N {α : Type} (l:Tr α) (v:Option α) (r:Tr α):Tr α := .node l v r
abbrev L {α : Type} : Tr α := .nil
abbrev O {α : Type} : Option α := none
abbrev S {α : Type} (x : α):Option α := some x
abbrev i (n:Int):AV := .int .i64 n
abbrev w (n:Int):AV := .int .u32 n
noncomputable def tIs (k:IntKind):List Int→Nat→Tr (List AV)→Tr (List AV)
  | [],_,t=>t
  | x::l,n,t=>tIs k l (n+1) (t.set n [.int k x])
noncomputable def tI (k:IntKind) (l:List Int):Tr (List AV):=tIs k l 0 .nil
noncomputable def tLs:List (List AV)→Nat→Tr (List AV)→Tr (List AV)
  | [],_,t=>t
  | x::l,n,t=>tLs l (n+1) (t.set n x)
noncomputable def tL (l:List (List AV)):Tr (List AV):=tLs l 0 .nil
/-- The run of the compiler's first half, and of the whole. -/
noncomputable def te0:Te:=⟨20,[.str [105,110,116,32,109,97,105,110,40,41,32,123,32,111,117,116,40,49,41,59,32,114,101,116,117,114,110,32,48,59,32,125],.agg [i 4096,i 12,i 16,.bool false]],
  ⟨4,(N (N (N L (S ⟨0,(.whole 47),(.box [i 4096,i 12,i 16,.bool false])⟩) L) (S ⟨0,(.whole 25),(.box [.nils,.nils,i 0,i 0])⟩) L) (S ⟨0,(.whole 47),(.box [i 4096,i 12,i 16,.bool false])⟩) (N L (S ⟨0,(.whole 43),(.box [i 0,i 0])⟩) L))⟩,
  .tup [.agg [.nils,.nils,.sl 409 0 1 0 6,i 0],.agg [i 0,i 0],i 0],
  ⟨1547,(N (N (N L (S ⟨0,(.whole 47),(.box [i 4096,i 12,i 16,.bool false])⟩) L) (S ⟨0,(.whole 25),(.box [.nils,.nils,i 0,i 0])⟩) (N (N L O (N L O (N (N (N L O (N L (S ⟨1,.rw,(.arr 1 6 (tL [[.str [109,97,105,110],.bool false,i 0,i 3,.nils,.sl 1432 0 1 0 5]]) [.str [],.bool false,i 0,i 0,.nils,.nils])⟩) L)) O L) O L))) O L)) (S ⟨0,(.whole 47),(.box [i 4096,i 12,i 16,.bool false])⟩) (N (N (N L O (N L O (N (N (N L O (N L O (N (N L (S ⟨0,(.own 274),(.arr 1 5 (tL [[.sl 1380 0 3 0 11,i 3,i 1,i 0,i 0]]) [.nils,i 0,i 0,i 0,i 0])⟩) L) O L))) O L) O L))) O (N (N (N L O (N L O (N (N L O (N (N L (S ⟨0,.rw,(.arr 3 11 (tL [[i 1,i 0,i (-1),i (-1),i 0,i 0,i 0,i 0,w 1,.nils,.bool false],[i 10,i (-1),i 0,i (-1),i 0,i 0,i 0,i 0,w 0,.nils,.bool false],[i 1,i 1,i (-1),i (-1),i 0,i 0,i 0,i 0,w 0,.nils,.bool false]]) [i 0,i 0,i 0,i 0,i 0,i 0,i 0,i 0,w 0,.nils,.bool false])⟩) L) O L)) O L))) O L) O L)) (S ⟨0,(.whole 43),(.box [i 0,i 0])⟩) L))⟩⟩
noncomputable def te1:Te:=⟨9,[.str [105,110,116,32,109,97,105,110,40,41,32,123,32,111,117,116,40,49,41,59,32,114,101,116,117,114,110,32,48,59,32,125],.agg [i 4096,i 12,i 16,.bool false]],
  ⟨0,L⟩,
  .tup [.agg [.sl 4734 0 128 0 1,.sl 4736 0 4096 4096 1,i 268436608,i 16],.agg [i 0,i 0],i 0],
  ⟨4738,(N L O (N (N (N (N (N (N (N L O (N (N L O (N (N (N L (S ⟨0,.rw,(.arr 4096 1 L [.int .u8 0])⟩) L) O L) O L)) O L)) O L) O L) O L) O L) O L) O (N L O (N L O (N L O (N L O (N L O (N (N (N L O (N (N (N L (S ⟨0,(.own 59),(.arr 128 1 (tI .u32 [268436407,238083,201458787,268435895,402751891,98963,268436407,1208189843,7506531,8561411,4396643,12747411,4271894639,3312739,4282548883,172803,4367235,7544867,4276088943,1209107,7541523,268436407,134448019,7537459,4399235,8593667,12788739,16983171,21177603,25372035,29566467,33760899,37955331,42149763,46344195,50538627,54733059,58927491,63121923,67316355,71510787,75705219,79899651,84094083,88288515,92482947,96677379,100871811,105066243,109260675,205443,163943,268439863,268435895,402751891,33555183,188743919,267744531,536871607,10659875,536871607,268436243,6465571,1180179,1209107,7541523,268436407,134448019,7537459,1253923,2303011,8594979,9644067,10693155,11742243,12791331,47390755,48439843,49488931,50538019,51587107,52636195,53685283,54734371,89333795,90382883,91431971,92481059,93530147,94579235,95628323,96677411,131276835,132325923,133375011,5447715,268436407,4431907,268435895,402751891,163943,4286644499,268436151,1208124051,4098975971,1122339,8462883,4112511727,1049619,268436151,4358803,5349411,172931,7447075,4301859,12681619,536871735,7544867,8593955,1278867,7512099,4053791471,1043,263443,4269059,73859,8454419,32871]) [w 0])⟩) L) O L) O L)) O L) O L))))))))⟩⟩
end Ct
set_option maxRecDepth 1000000 in
theorem run0:subR ((callT Tryz.prog (maskL awL) awPm [] 200).run Ct.te0.f Ct.te0.args Ct.te0.h) Ct.te0.v Ct.te0.h' = true:=by kernel_rfl
theorem te0_ok:TbOk (Pow10 Tryz.prog) Tryz.prog [Ct.te0]:=Y0p (Z2x (stOk_of awS) mixP Z6y Z9c run0) Z9c
end
end Go.Proofs.YtecakklofhfphaaGreatDoor
