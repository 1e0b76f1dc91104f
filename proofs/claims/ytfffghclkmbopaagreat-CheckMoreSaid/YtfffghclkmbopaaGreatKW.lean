/- That Go functions compute their models. Printed by gen2.py. -/
import Derived.Test.YtfffghclkmbopaaGreatKWef
set_option linter.unusedVariables false
namespace Go.Proofs.YtfffghclkmbopaaGreat
open List renaming length → qQ
open Bool renaming eq_false_or_eq_true → kG
open _root_.Go.Proofs.Tryz
set_option maxRecDepth 100000
set_option maxHeartbeats 8000000
attribute [local irreducible] wpList wpQuiet Code.wp
section
variable{P:Program}{ops:Array Oper}{Q:Exit->Act->World->Prop}{rest:List Oper}{n:NF}{J:Nat->Value}{L:List (Nat×Value)}{w w' w0:World}
theorem gF5{j d0:Nat}{b b':Bool}{e0:Nat}{o0:Op}{t0:TypeId}{s0:String}{a0:Array Edge}{e1:Nat}{o1:Op}{t1:TypeId}{s1:String}{a1:Array Edge}{e2:Nat}{o2:Op}{t2:TypeId}{s2:String}{a2:Array Edge}{e3:Nat}{o3:Op}{t3:TypeId}{s3:String}{a3:Array Edge}{e4:Nat}{o4:Op}{t4:TypeId}{s4:String}{a4:Array Edge}(hd:(ops[j]?).bind (·.dst)=some d0)(hv:ev n J ((e3,undef)::(e2,undef)::(e1,undef)::(e0,undef)::L) (.tmp d0)= .bool b')(hb:b'=!b)(k:wpList P ops Q rest (env n J ((e4,undef)::(e3,undef)::(e2,undef)::(e1,undef)::(e0,undef)::L)) w):wpList P ops Q (⟨some e0,o0,t0,s0,a0,some (j,b)⟩::⟨some e1,o1,t1,s1,a1,some (j,b)⟩::⟨some e2,o2,t2,s2,a2,some (j,b)⟩::⟨some e3,o3,t3,s3,a3,some (j,b)⟩::⟨some e4,o4,t4,s4,a4,some (j,b)⟩::rest) (env n J L) w:=
 gF hd (undB (undB (undB (undB hv)))) hb (gF4 hd hv hb k)
end
variable{g:World}{T0:Nat->Prop}{w0:World}{R:List X4}
variable{b1 b2 Y5 Q1c Z6c Z6b Z6x c1 c2 c3 c4 c5 c6 c7 c8 c9 c10 c11 c12 c13 n1 n2 n3 n4 n5 n6 n7 Y4 Q1b Z5m Z5l Z6p oo1 oo2:Nat}{H1 H2 Z7 R6 Z3o Z3n Z6f:List Value->X4}{a1 a2 a3 a4 a5 a6 a7 a8 a9 a10 a11 a12 a13:OA}{r1 r2:Option Nat}{pv1:Value}
attribute [local irreducible] A7 Q0r execOp Program.underlying sizeOf isAgg zeroValue

theorem Z2j{p0:List Q5u}{p1:List Q5u}(hS:Sep g T0 w0 [X3 R])(h1:SlR Q1e T0 w0 (sv a1 p0 c1) p0)(h2:SlR Q1e T0 w0 (sv a2 p1 c2) p1):∀r,Q9u p0 p1=some r->
 Cl 11 #[sv a1 p0 c1,sv a2 p1 c2] w0 (Q17 T0 w0 g R r):=by
 intro r hm;refine eN Tryz.func11 Tryz.ntmps11 fun J=>?_;unfold Q9u at hm;refine qN ?_;refine sq2 (sq2 (cd hm ?_ ?_))<;>intro av hm
 . exact sq2 (re hm (hS.sE [0]))
 refine kC ?_;refine lpJ hm (fun K O m a U=>∃V D,JR (nf 54) g T0 w0 a U V (X8 K m D=some O) [(0,sv a1 p0 c1),(1,sv a2 p1 c2),(5,iv D)] [X3 R]) (fun _ _ h=>je h (hS.sE [0])) ?_;rintro K ae O W _ _ U ⟨V,D,J,af,rfl,aa,_⟩;obtain⟨m1,_,rfl,hm,E⟩:=lrE af ae;refine sq2 (sq2 (cd hm ?_ ?_))<;>intro aw hm
 . refine kE ?_;refine blk (sq2 ?_);obtain⟨u1,ag,hm⟩:=Z9 hm;obtain⟨I,ah,hm⟩:=Z9 hm;refine rqS aa (pu ?_)
   rcases bc hm with⟨ai,hm⟩|⟨ai,hm⟩
   . refine pn ?_;intro _ _ _ aj;exact zr hm aj
   obtain⟨u3,ab,hm⟩:=Z9 hm;obtain rfl:u1=u3:=oI (ag.symm.trans ab);obtain⟨u4,ac,hm⟩:=Z9 hm;obtain rfl:I=u4:=oI (ah.symm.trans ac);refine pu ?_
   rcases bc hm with⟨an,hm⟩|⟨an,hm⟩
   . refine pn ?_;intro _ _ _ ao;refine E9 [(0,sv a1 p0 c1),(1,sv a2 p1 c2),(5,iv D),(53,.bool true)] ⟨rfl,rfl,rfl,rfl,qZt⟩ fun J=>cnd (b:=true) rfl (fun _=>?_) (fun h=>nomatch h);refine qN ?_;have hm:=Q4j hm E W;exact re hm (ao.sE [0])
   obtain⟨u5,aq,hm⟩:=Z9 hm;obtain rfl:u1=u5:=oI (ab.symm.trans aq);obtain⟨u6,au,hm⟩:=Z9 hm;obtain rfl:I=u6:=oI (ac.symm.trans au);refine pn ?_;intro _ _ _ ad;refine E9 [(0,sv a1 p0 c1),(1,sv a2 p1 c2),(5,iv D),(53,.bool (u1.Cell !=I.Cell))] ⟨rfl,rfl,rfl,rfl,qZt⟩ fun J=>?_;refine cd hm ?_ ?_<;>intro ax hm
   . refine qN ?_;have hm:=Q4j hm E W;exact re hm (ad.sE [0])
   exact lg hm E (ad.sE [0])
 exact zr hm aa

instance:Ct 11 @Z2j:=⟨@Z2j,cf11⟩
def Z2s(F:(List Y1)->(List Y1)->Option (Bool)):Prop:=∀{g:World}{T0:TP}{w0:World}{R:List X4}{p0:List Y1}{a1 c1}{p1:List Y1}{a2 c2}(hS:Sep g T0 w0 [X3 R])(h1:SlR X9 T0 w0 (sv a1 p0 c1) p0)(h2:SlR X9 T0 w0 (sv a2 p1 c2) p1),∀r,F p0 p1=some r->
 Cl 25 #[sv a1 p0 c1,sv a2 p1 c2] w0 (Q17 T0 w0 g R r)
structure Sp7(G:Rec7):Prop where
 Q1o:Z2s G.Q1o
theorem Y5b{G:Rec7}(hG:Sp7 G):Z2s (Z0m G):=by
 intro g T0 w0 R p0 a1 c1 p1 a2 c2 hS h1 h2 r hm;refine eN Tryz.func25 Tryz.ntmps25 fun J=>?_;unfold Z0m at hm;refine qN ?_;refine sq2 (sq2 (cd hm ?_ ?_))<;>intro ax hm
 . exact sq2 (re hm (hS.sE [0]))
 refine kC ?_;refine lpJ hm (fun ak o1 m a w1=>∃T1 I,JR (nf 89) g T0 w0 a w1 T1 (X8 ak m I=some o1) [(0,sv a1 p0 c1),(1,sv a2 p1 c2),(5,iv I)] [X3 R]) (fun _ _ h=>je h (hS.sE [0])) ?_;rintro ak ar o1 _ _ _ w1 ⟨T1,I,J,au,rfl,an,_⟩;obtain⟨m1,z1,rfl,hm,_⟩:=lrE au ar;refine sq2 (sq2 (cd hm ?_ ?_))<;>intro ay hm
 . refine kE ?_;refine blk (S9 hm (fun ao a w2=>∃T2 V D a3 c3 W E a4 c4,JR (nf 89) g T1 w1 a w2 T2 (ao D E=some z1) [(0,sv a1 p0 c1),(1,sv a2 p1 c2),(5,iv I),(6,pt V 0),(7,pt W 0)] [X3 R,Q68 a3 V c3 D,Q68 a4 W c4 E]/\Q10 a3 c3 T2 w2 D.Kids/\Q10 a4 c4 T2 w2 E.Kids) (fun ao hm=>?_) ?_)
   . refine rtS [0,0,0,1,0,0,0,1,2,2,2,2] [0,1,2,3,4,5,6,7,8,9,10,11] an fun w3 aA aw=>?_;have dd:KD [(8,[]),(9,[]),(10,[3,8,9]),(11,[3,7,8,9,10])]:=⟨qZt⟩;exact zr hm aw
   rintro _ w2 ⟨T2,V,D,a3,c3,W,E,a4,c4,⟨J,hm,rfl,ad,_⟩,_,_⟩;refine qU ?_;refine fkC (d:=38) (c:=((D.Kind !=E.Kind)||(D.Fn !=E.Fn))) 6 [(0,sv a1 p0 c1),(1,sv a2 p1 c2),(5,iv I),(6,pt V 0),(7,pt W 0)] rfl (fun hk=>zw (D.Kind !=E.Kind) hk) fun J=>pu ?_;refine fkC (d:=45) (c:=(((D.Kind !=E.Kind)||(D.Fn !=E.Fn))||(D.Num !=E.Num))) 6 [(0,sv a1 p0 c1),(1,sv a2 p1 c2),(5,iv I),(6,pt V 0),(7,pt W 0)] rfl (fun hk=>zw ((D.Kind !=E.Kind)||(D.Fn !=E.Fn)) hk) fun J=>pu ?_;refine fkC (d:=52) (c:=((((D.Kind !=E.Kind)||(D.Fn !=E.Fn))||(D.Num !=E.Num))||(D.Var !=E.Var))) 6 [(0,sv a1 p0 c1),(1,sv a2 p1 c2),(5,iv I),(6,pt V 0),(7,pt W 0)] rfl (fun hk=>zw (((D.Kind !=E.Kind)||(D.Fn !=E.Fn))||(D.Num !=E.Num)) hk) fun J=>pu ?_;refine fkC (d:=59) (c:=(((((D.Kind !=E.Kind)||(D.Fn !=E.Fn))||(D.Num !=E.Num))||(D.Var !=E.Var))||(!(D.Global==E.Global)))) 6 [(0,sv a1 p0 c1),(1,sv a2 p1 c2),(5,iv I),(6,pt V 0),(7,pt W 0)] rfl (fun hk=>?_) fun J=>?_
   . rcases kG ((((D.Kind !=E.Kind)||(D.Fn !=E.Fn))||(D.Num !=E.Num))||(D.Var !=E.Var))with K|K
     . exact gF5 (d0:=53) rfl rfl (by rw[K];rfl) (pv (r_pkt rfl K rfl) (wlR (fun J=>hk J _ (by rw[K];rfl)) ⟨rfl,rfl,rfl,rfl,rfl,rfl,qZt⟩))
     exact gT (d0:=53) rfl rfl K (pv (r_fa rfl underlying145 rfl sizeOf4 rfl) (gT (d0:=53) rfl rfl K (pv (r_ld rfl isAgg4 (ad.cell0 (i:=1) ⟨rfl,rfl⟩ (j:=4) rfl)) (gT (d0:=53) rfl rfl K (pv (r_fa rfl underlying145 rfl sizeOf4 rfl) (gT (d0:=53) rfl rfl K (pv (r_ld rfl isAgg4 (ad.cell0 (i:=2) ⟨rfl,rfl⟩ (j:=4) rfl)) (gT (d0:=53) rfl rfl K (pv (r_bn rfl rfl underlying4) (pv (r_pkf rfl K rfl) (wlR (fun J=>hk J _ (by rw[K];rfl)) ⟨rfl,rfl,rfl,rfl,rfl,rfl,qZt⟩)))))))))))
   refine pu ?_;refine fkC (d:=66) (c:=((((((D.Kind !=E.Kind)||(D.Fn !=E.Fn))||(D.Num !=E.Num))||(D.Var !=E.Var))||(!(D.Global==E.Global)))||(D.Size !=E.Size))) 6 [(0,sv a1 p0 c1),(1,sv a2 p1 c2),(5,iv I),(6,pt V 0),(7,pt W 0)] rfl (fun hk=>zw (((((D.Kind !=E.Kind)||(D.Fn !=E.Fn))||(D.Num !=E.Num))||(D.Var !=E.Var))||(!(D.Global==E.Global))) hk) fun J=>pu ?_;refine fkC (d:=73) (c:=(((((((D.Kind !=E.Kind)||(D.Fn !=E.Fn))||(D.Num !=E.Num))||(D.Var !=E.Var))||(!(D.Global==E.Global)))||(D.Size !=E.Size))||(!(D.Post==E.Post)))) 6 [(0,sv a1 p0 c1),(1,sv a2 p1 c2),(5,iv I),(6,pt V 0),(7,pt W 0)] rfl (fun hk=>?_) fun J=>?_
   . rcases kG ((((((D.Kind !=E.Kind)||(D.Fn !=E.Fn))||(D.Num !=E.Num))||(D.Var !=E.Var))||(!(D.Global==E.Global)))||(D.Size !=E.Size))with O|O
     . exact gF5 (d0:=67) rfl rfl (by rw[O];rfl) (pv (r_pkt rfl O rfl) (wlR (fun J=>hk J _ (by rw[O];rfl)) ⟨rfl,rfl,rfl,rfl,rfl,rfl,qZt⟩))
     exact gT (d0:=67) rfl rfl O (pv (r_fa rfl underlying145 rfl sizeOf4 rfl) (gT (d0:=67) rfl rfl O (pv (r_ld rfl isAgg4 (ad.cell0 (i:=1) ⟨rfl,rfl⟩ (j:=6) rfl)) (gT (d0:=67) rfl rfl O (pv (r_fa rfl underlying145 rfl sizeOf4 rfl) (gT (d0:=67) rfl rfl O (pv (r_ld rfl isAgg4 (ad.cell0 (i:=2) ⟨rfl,rfl⟩ (j:=6) rfl)) (gT (d0:=67) rfl rfl O (pv (r_bn rfl rfl underlying4) (pv (r_pkf rfl O rfl) (wlR (fun J=>hk J _ (by rw[O];rfl)) ⟨rfl,rfl,rfl,rfl,rfl,rfl,qZt⟩)))))))))))
   refine pu ?_;refine fkC (d:=80) (c:=((((((((D.Kind !=E.Kind)||(D.Fn !=E.Fn))||(D.Num !=E.Num))||(D.Var !=E.Var))||(!(D.Global==E.Global)))||(D.Size !=E.Size))||(!(D.Post==E.Post)))||(!(D.Ptr==E.Ptr)))) 6 [(0,sv a1 p0 c1),(1,sv a2 p1 c2),(5,iv I),(6,pt V 0),(7,pt W 0)] rfl (fun hk=>?_) fun J=>?_
   . rcases kG (((((((D.Kind !=E.Kind)||(D.Fn !=E.Fn))||(D.Num !=E.Num))||(D.Var !=E.Var))||(!(D.Global==E.Global)))||(D.Size !=E.Size))||(!(D.Post==E.Post)))with U|U
     . exact gF5 (d0:=74) rfl rfl (by rw[U];rfl) (pv (r_pkt rfl U rfl) (wlR (fun J=>hk J _ (by rw[U];rfl)) ⟨rfl,rfl,rfl,rfl,rfl,rfl,qZt⟩))
     exact gT (d0:=74) rfl rfl U (pv (r_fa rfl underlying145 rfl sizeOf4 rfl) (gT (d0:=74) rfl rfl U (pv (r_ld rfl isAgg4 (ad.cell0 (i:=1) ⟨rfl,rfl⟩ (j:=7) rfl)) (gT (d0:=74) rfl rfl U (pv (r_fa rfl underlying145 rfl sizeOf4 rfl) (gT (d0:=74) rfl rfl U (pv (r_ld rfl isAgg4 (ad.cell0 (i:=2) ⟨rfl,rfl⟩ (j:=7) rfl)) (gT (d0:=74) rfl rfl U (pv (r_bn rfl rfl underlying4) (pv (r_pkf rfl U rfl) (wlR (fun J=>hk J _ (by rw[U];rfl)) ⟨rfl,rfl,rfl,rfl,rfl,rfl,qZt⟩)))))))))))
   have aC:Ctr Tryz.prog 25 (type_of%@hG.Q1o):=⟨@hG.Q1o,cf25⟩;exact zr hm ad
 exact zr hm an
theorem sp7:∀n,Sp7 (rec7 n)
 |0=>⟨(by unfold Z2s;intros;rename_i h;cases(show(none:Option _)=some _ from h))⟩
 |n+1=>⟨Y5b (sp7 n)⟩
theorem Z8g:Z2s Q1o:=(sp7 NN).Q1o

def Z1p(F:(List K2)->(List K2)->Option (Bool)):Prop:=∀{g:World}{T0:TP}{w0:World}{R:List X4}{p0:List K2}{a1 c1}{p1:List K2}{a2 c2}(hS:Sep g T0 w0 [X3 R])(h1:SlR A8 T0 w0 (sv a1 p0 c1) p0)(h2:SlR A8 T0 w0 (sv a2 p1 c2) p1),∀r,F p0 p1=some r->
 Cl 12 #[sv a1 p0 c1,sv a2 p1 c2] w0 (Q17 T0 w0 g R r)
structure Sp8(G:Rec8):Prop where
 R1:Z1p G.R1
theorem Y4e{G:Rec8}(hG:Sp8 G):Z1p (Q8u G):=by
 intro g T0 w0 R p0 a1 c1 p1 a2 c2 hS h1 h2 r hm;refine eN Tryz.func12 Tryz.ntmps12 fun J=>?_;unfold Q8u at hm;refine qN ?_;refine sq2 (sq2 (cd hm ?_ ?_))<;>intro bD hm
 . exact sq2 (re hm (hS.sE [0]))
 refine kC ?_;refine lpJ hm (fun aG o1 m a w1=>∃T1 V,JR (nf 127) g T0 w0 a w1 T1 (X8 aG m V=some o1) [(0,sv a1 p0 c1),(1,sv a2 p1 c2),(5,iv V)] [X3 R]) (fun _ _ h=>je h (hS.sE [0])) ?_;rintro aG aY o1 _ _ _ w1 ⟨T1,V,J,aZ,rfl,aJ,_⟩;obtain⟨m1,z1,rfl,hm,_⟩:=lrE aZ aY;refine sq2 (sq2 (cd hm ?_ ?_))<;>intro bF hm
 . refine kE ?_;refine blk (S9 hm (fun aK a W=>∃T2 I D a3 c3 a4 c4 a5 c5 a6 c6 a7 c7 K E a8 c8 a9 c9 ao c10 ap c11 aq c12,JR (nf 127) g T1 w1 a W T2 (aK D E=some z1) [(0,sv a1 p0 c1),(1,sv a2 p1 c2),(5,iv V),(6,pt I 0),(7,pt K 0)] [X3 R,K4 I (Z8n D a3 c3 a4 c4 a5 c5 a6 c6 a7 c7),K4 K (Z8n E a8 c8 a9 c9 ao c10 ap c11 aq c12)]/\Q10 a3 c3 T2 W D.A/\Q10 a4 c4 T2 W D.Post/\Q64 a5 c5 T2 W D.Body/\Q64 a6 c6 T2 W D.Else/\SlR Q7c T2 W (sv a7 D.Cases c7) D.Cases/\Q10 a8 c8 T2 W E.A/\Q35 a9 ao ap aq c9 c10 c11 c12 T2 W E) (fun aK hm=>?_) ?_)
   . refine rtS [0,0,0,1,0,0,0,1,2,2,2,2] [0,1,2,3,4,5,6,7,8,9,10,11] aJ fun w3 bI be=>?_;have dd:KD [(8,[]),(9,[]),(10,[3,8,9]),(11,[3,7,8,9,10])]:=⟨qZt⟩;exact zr hm be
   rintro _ W ⟨T2,I,D,a3,c3,a4,c4,a5,c5,a6,c6,a7,c7,K,E,a8,c8,a9,c9,ao,c10,ap,c11,aq,c12,⟨J,hm,rfl,au,_⟩,h3,h4,h5,h6,_,h8,h9,bm,bn,_⟩;refine sq2 (qU ?_);refine fkC (d:=41) (c:=((D.Kind !=E.Kind)||(!(D.First==E.First)))) 6 [(0,sv a1 p0 c1),(1,sv a2 p1 c2),(5,iv V),(6,pt I 0),(7,pt K 0)] rfl (fun hk=>?_) fun J=>?_
   . rcases kG (D.Kind !=E.Kind)with O|O
     . exact gF5 (d0:=35) rfl rfl (by rw[O];rfl) (pv (r_pkt rfl O rfl) (wlR (fun J=>hk J _ (by rw[O];rfl)) ⟨rfl,rfl,rfl,rfl,rfl,rfl,qZt⟩))
     exact gT (d0:=35) rfl rfl O (pv (r_fa rfl underlying102 rfl sizeOf4 rfl) (gT (d0:=35) rfl rfl O (pv (r_ld rfl isAgg4 (au.cell0 (i:=1) ⟨rfl,rfl⟩ (j:=3) rfl)) (gT (d0:=35) rfl rfl O (pv (r_fa rfl underlying102 rfl sizeOf4 rfl) (gT (d0:=35) rfl rfl O (pv (r_ld rfl isAgg4 (au.cell0 (i:=2) ⟨rfl,rfl⟩ (j:=3) rfl)) (gT (d0:=35) rfl rfl O (pv (r_bn rfl rfl underlying4) (pv (r_pkf rfl O rfl) (wlR (fun J=>hk J _ (by rw[O];rfl)) ⟨rfl,rfl,rfl,rfl,rfl,rfl,qZt⟩)))))))))))
   refine pu ?_;refine fkC (d:=48) (c:=(((D.Kind !=E.Kind)||(!(D.First==E.First)))||(D.Var !=E.Var))) 6 [(0,sv a1 p0 c1),(1,sv a2 p1 c2),(5,iv V),(6,pt I 0),(7,pt K 0)] rfl (fun hk=>zw ((D.Kind !=E.Kind)||(!(D.First==E.First))) hk) fun J=>pu ?_
   rcases bc hm with⟨bo,hm⟩|⟨bo,hm⟩
   . exact zr hm au
   refine pu ?_;refine cB cf25 hm (Z8g (au.bE [0,1,2] []) h3 h8) ?_;rintro _ _ _ _ _ ⟨rfl,aM,_⟩ hm;refine pu ?_
   rcases bc hm with⟨bp,hm⟩|⟨bp,hm⟩
   . exact zr hm aM
   refine pu ?_;refine cB cf25 hm (Z8g (aM.bE [0,1,2] []) (mC h4) (mC h9)) ?_;rintro _ _ _ _ _ ⟨rfl,aN,_⟩ hm;refine pu ?_
   rcases bc hm with⟨bq,hm⟩|⟨bq,hm⟩
   . exact zr hm aN
   refine pu ?_;refine cB cf12 hm (hG.R1 (aN.bE [0,1,2] []) (mC h5) (mC bm)) ?_;rintro _ _ _ _ _ ⟨rfl,aP,_⟩ hm;refine pu ?_
   rcases bc hm with⟨bt,hm⟩|⟨bt,hm⟩
   . exact zr hm aP
   refine pu ?_;refine cB cf12 hm (hG.R1 (aP.bE [0,1,2] []) (mC h6) (mC bn)) ?_;rintro y4 _ T6 bv _ ⟨rfl,aR,_⟩ hm;refine pu ?_;refine fkN (d:=89) (c:=((!y4)||((qQ D.Cases:Int)!=(qQ E.Cases:Int)))) 8 [(0,sv a1 p0 c1),(1,sv a2 p1 c2),(5,iv V),(6,pt I 0),(7,pt K 0)] rfl (fun hk=>zw (!y4) hk) fun J=>?_;refine cd hm ?_ ?_<;>intro bJ hm
   . exact zr hm aR
   refine kD ?_;refine lpJ hm (fun aS o2 m a aB=>∃T7 x4,JR (nf 127) g T6 bv a aB T7 (X8 aS m x4=some o2) [(0,sv a1 p0 c1),(1,sv a2 p1 c2),(5,iv V),(6,pt I 0),(7,pt K 0),(8,iv x4)] [X3 R,K4 I (Z8n D a3 c3 a4 c4 a5 c5 a6 c6 a7 c7),K4 K (Z8n E a8 c8 a9 c9 ao c10 ap c11 aq c12)]) (fun _ _ h=>je h (aR.sE [0,1,2])) ?_;rintro aS bw o2 _ _ _ aB ⟨T7,x4,J,bz,rfl,aU,_⟩;obtain⟨_,z2,rfl,hm,_⟩:=lrE bz bw;refine sq2 (sq2 (cd hm ?_ ?_))<;>intro bK hm
   . refine kE ?_;refine blk (S9 hm (fun aV a av=>∃T8 b7 x5 aD c23 b8 x6 aE c24,JR (nf 127) g T7 aB a av T8 (aV x5 x6=some z2) [(0,sv a1 p0 c1),(1,sv a2 p1 c2),(5,iv V),(6,pt I 0),(7,pt K 0),(8,iv x4),(9,pt b7 0),(10,pt b8 0)] [X3 R,K4 I (Z8n D a3 c3 a4 c4 a5 c5 a6 c6 a7 c7),K4 K (Z8n E a8 c8 a9 c9 ao c10 ap c11 aq c12),K4 b7 (X1u x5 aD c23),K4 b8 (X1u x6 aE c24)]/\Q64 aD c23 T8 av x5.Body/\Q64 aE c24 T8 av x6.Body) (fun aV hm=>?_) ?_)
     . refine rtS [0,1,0,0,1,0,1,0,0,1,2,2,2,2] [0,1,2,3,4,5,6,7,8,9,10,11,12,13] aU fun bL bM bC=>?_;have dd:KD [(10,[]),(11,[]),(12,[1,4,10,11]),(13,[1,4,6,9,10,11,12])]:=⟨qZt⟩;exact zr hm bC
     rintro _ av ⟨T8,b7,x5,aD,c23,b8,x6,aE,c24,⟨J,hm,rfl,aF,_⟩,_,_⟩;refine qU ?_;refine pv (r_bn rfl rfl underlying4) (pu ?_);refine fkC (d:=118) (c:=((!(x5.Default==x6.Default))||(x5.Num !=x6.Num))) 6 [(0,sv a1 p0 c1),(1,sv a2 p1 c2),(5,iv V),(6,pt I 0),(7,pt K 0),(8,iv x4),(9,pt b7 0),(10,pt b8 0)] rfl (fun hk=>?_) fun J=>?_
     . rcases kG (!(x5.Default==x6.Default))with U|U
       . exact gF5 (d0:=112) rfl rfl (by rw[U];rfl) (pv (r_pkt rfl U rfl) (wlR (fun J=>hk J _ (by rw[U];rfl)) ⟨rfl,rfl,rfl,rfl,rfl,rfl,rfl,rfl,rfl,qZt⟩))
       exact gT (d0:=112) rfl rfl U (pv (r_fa rfl underlying106 rfl sizeOf104 rfl) (gT (d0:=112) rfl rfl U (pv (r_ld rfl isAgg104 (aF.cell0 (i:=3) ⟨rfl,rfl⟩ (j:=1) rfl)) (gT (d0:=112) rfl rfl U (pv (r_fa rfl underlying106 rfl sizeOf104 rfl) (gT (d0:=112) rfl rfl U (pv (r_ld rfl isAgg104 (aF.cell0 (i:=4) ⟨rfl,rfl⟩ (j:=1) rfl)) (gT (d0:=112) rfl rfl U (pv (r_ib rfl rfl rfl) (pv (r_pkf rfl U rfl) (wlR (fun J=>hk J _ (by rw[U];rfl)) ⟨rfl,rfl,rfl,rfl,rfl,rfl,rfl,rfl,rfl,qZt⟩)))))))))))
     have bN:Ctr Tryz.prog 12 (type_of%@hG.R1):=⟨@hG.R1,cf12⟩;exact zr hm aF
   exact zr hm aU
 exact zr hm aJ
theorem sp8:∀n,Sp8 (rec8 n)
 |0=>⟨(by unfold Z1p;intros;rename_i h;cases(show(none:Option _)=some _ from h))⟩
 |n+1=>⟨Y4e (sp8 n)⟩
theorem X3k:Z1p R1:=(sp8 NN).R1

theorem Z3h{p0:Q9x}{p1:Q9x}(hS:Sep g T0 w0 [X3 R])(h1:SlR Q1e T0 w0 (sv a1 p0.Globals c1) p0.Globals)(h2:SlR (rSl (N7 .u8)) T0 w0 (sv a2 p0.Data c2) p0.Data)(h3:SlR Q6d T0 w0 (sv a3 p0.Codes c3) p0.Codes)(h4:SlR Q1e T0 w0 (sv a4 p1.Globals c4) p1.Globals)(h5:SlR (rSl (N7 .u8)) T0 w0 (sv a5 p1.Data c5) p1.Data)(h6:SlR Q6d T0 w0 (sv a6 p1.Codes c6) p1.Codes):∀r,Z1k p0 p1=some r->
 Cl 7 #[Q56 a1 a2 a3 c1 c2 c3 p0,Q56 a4 a5 a6 c4 c5 c6 p1] w0 (Q17 T0 w0 g R r):=by
 intro r hm;refine eN Tryz.func7 Tryz.ntmps7 fun J=>?_;unfold Z1k at hm;refine sq2 (bX [sv a1 p0.Globals c1,sv a2 p0.Data c2,sv a3 p0.Codes c3,iv p0.Main] hS ?_);intro _ E _ aD;refine bX [sv a4 p1.Globals c4,sv a5 p1.Data c5,sv a6 p1.Codes c6,iv p1.Main] aD ?_;intro _ I _ aE;refine kB ?_;refine cB cf11 hm (Z2j (aE.bE [0,1,2] []) (mC h1) (mC h4)) ?_;rintro U _ T1 w3 _ ⟨rfl,ax,_⟩ hm;refine pu ?_;refine fkC (d:=23) (c:=((!U)||((qQ p0.Data:Int)!=(qQ p1.Data:Int)))) 8 [(2,pt E 0),(3,pt I 0)] rfl (fun hk=>zw (!U) hk) fun J=>pu ?_;refine fkC (d:=32) (c:=(((!U)||((qQ p0.Data:Int)!=(qQ p1.Data:Int)))||((qQ p0.Codes:Int)!=(qQ p1.Codes:Int)))) 8 [(2,pt E 0),(3,pt I 0)] rfl (fun hk=>zw ((!U)||((qQ p0.Data:Int)!=(qQ p1.Data:Int))) hk) fun J=>pu ?_;refine fkN (d:=39) (c:=((((!U)||((qQ p0.Data:Int)!=(qQ p1.Data:Int)))||((qQ p0.Codes:Int)!=(qQ p1.Codes:Int)))||(p0.Main !=p1.Main))) 6 [(2,pt E 0),(3,pt I 0)] rfl (fun hk=>zw (((!U)||((qQ p0.Data:Int)!=(qQ p1.Data:Int)))||((qQ p0.Codes:Int)!=(qQ p1.Codes:Int))) hk) fun J=>?_;refine cd hm ?_ ?_<;>intro aY hm
 . exact sq2 (re hm (ax.sE [2]))
 refine kC ?_;refine lpJ hm (fun aa o1 m a w4=>∃T2 x1,JR (nf 105) g T1 w3 a w4 T2 (X8 aa m x1=some o1) [(2,pt E 0),(3,pt I 0),(5,iv x1)] [Q30 a4 a5 a6 I c4 c5 c6 p1,Q30 a1 a2 a3 E c1 c2 c3 p0,X3 R]) (fun _ _ h=>je h (ax.sE [0,1,2])) ?_;rintro aa an o1 ae _ _ w4 ⟨T2,x1,J,ao,rfl,af,_⟩;obtain⟨m1,z1,rfl,hm,ac⟩:=lrE ao an;refine sq2 (sq2 (cd hm ?_ ?_))<;>intro aZ hm
 . refine kE ?_;refine blk (sq2 ?_);obtain⟨u1,aI,hm⟩:=Z9 hm;obtain⟨cs1,aJ,_,hT1⟩:=ixS af aI h2;obtain⟨_,c7,rfl,h7⟩:=Y8o aJ;obtain⟨_,aM,hm⟩:=Z9 hm;obtain⟨cs2,aN,_,hT2⟩:=ixS af aM h5;obtain⟨_,c8,rfl,h8⟩:=Y8o aN;refine rqS af (pu ?_);refine qv (fun _ hq=>r_cvs rfl (hq.slv h7.v) underlying51 underlying5 underlying9) (pu ?_);refine qv (fun _ hq=>r_cvs rfl (hq.slv h8.v) underlying51 underlying5 underlying9) (pn ?_);intro _ _ _ aQ;exact zr hm aQ
 have hm:=Z0r hm ac ae;refine kC ?_;refine lpJ hm (fun aa o1 m a w6=>∃T4 x2,JR (nf 105) g T2 w4 a w6 T4 (X8 aa m x2=some o1) [(2,pt E 0),(3,pt I 0),(6,iv x2)] [Q30 a4 a5 a6 I c4 c5 c6 p1,Q30 a1 a2 a3 E c1 c2 c3 p0,X3 R]) (fun _ _ h=>je h (af.sE [0,1,2])) ?_;rintro aa an o1 ae _ _ w6 ⟨T4,x2,J,ao,rfl,az,_⟩;obtain⟨m1,z1,rfl,hm,ac⟩:=lrE ao an;refine sq2 (sq2 (cd hm ?_ ?_))<;>intro ba hm
 . refine kE ?_;refine blk (S9 hm (fun aA a V=>∃W b5 K a9 c9 au c10 b6 O av c11 aw c12,JR (nf 105) g T4 w6 a V W (aA K O=some z1) [(2,pt E 0),(3,pt I 0),(6,iv x2),(7,pt b5 0),(8,pt b6 0)] [Q30 a4 a5 a6 I c4 c5 c6 p1,Q30 a1 a2 a3 E c1 c2 c3 p0,X3 R,K4 b5 (cGCode K a9 c9 au c10),K4 b6 (cGCode O av c11 aw c12)]/\SlR Q1e W V (sv a9 K.Slots c9) K.Slots/\Q64 au c10 W V K.Body/\SlR Q1e W V (sv av O.Slots c11) O.Slots/\Q64 aw c12 W V O.Body) (fun aA hm=>?_) ?_)
   . refine rtS [0,1,0,0,1,0,1,0,0,1,2,2,2,2] [0,1,2,3,4,5,6,7,8,9,10,11,12,13] az fun w8 bf aR=>?_;have dd:KD [(10,[]),(11,[]),(12,[1,4,10,11]),(13,[1,4,6,9,10,11,12])]:=⟨qZt⟩;exact zr hm aR
   rintro _ V ⟨W,b5,K,a9,c9,au,c10,b6,O,av,c11,aw,c12,⟨J,hm,rfl,ai,_⟩,h9,aT,aU,aV⟩;refine qU ?_;refine pv (r_bn rfl rfl underlying4) (pu ?_);refine fkC (d:=88) (c:=((!(K.Void==O.Void))||(K.Params !=O.Params))) 6 [(2,pt E 0),(3,pt I 0),(6,iv x2),(7,pt b5 0),(8,pt b6 0)] rfl (fun hk=>?_) fun J=>?_
   . rcases kG (!(K.Void==O.Void))with D|D
     . exact gF5 (d0:=82) rfl rfl (by rw[D];rfl) (pv (r_pkt rfl D rfl) (wlR (fun J=>hk J _ (by rw[D];rfl)) ⟨rfl,rfl,rfl,rfl,rfl,rfl,qZt⟩))
     exact gT (d0:=82) rfl rfl D (pv (r_fa rfl underlying32 rfl sizeOf3 rfl) (gT (d0:=82) rfl rfl D (pv (r_ld rfl isAgg3 (ai.cell0 (i:=3) ⟨rfl,rfl⟩ (j:=2) rfl)) (gT (d0:=82) rfl rfl D (pv (r_fa rfl underlying32 rfl sizeOf3 rfl) (gT (d0:=82) rfl rfl D (pv (r_ld rfl isAgg3 (ai.cell0 (i:=4) ⟨rfl,rfl⟩ (j:=2) rfl)) (gT (d0:=82) rfl rfl D (pv (r_ib rfl rfl rfl) (pv (r_pkf rfl D rfl) (wlR (fun J=>hk J _ (by rw[D];rfl)) ⟨rfl,rfl,rfl,rfl,rfl,rfl,qZt⟩)))))))))))
   refine pu ?_
   rcases bc hm with⟨aW,hm⟩|⟨aW,hm⟩
   . exact zr hm ai
   refine pu ?_;refine cB cf11 hm (Z2j (ai.bE (Z4 0 5) []) h9 aU) ?_;rintro _ _ _ _ _ ⟨rfl,aB,_⟩ hm;refine pu ?_
   rcases bc hm with⟨aX,hm⟩|⟨aX,hm⟩
   . refine pn ?_;refine cnd (b:=true) rfl (fun _=>?_) (fun h=>nomatch h);refine qN ?_;have hm:=Q4j hm ac ae;exact re hm (aB.sE [2])
   refine pu ?_;refine cB cf12 hm (X3k (aB.bE [0,1,2] []) (mC aT) (mC aV)) ?_;rintro _ _ _ _ _ ⟨rfl,aC,_⟩ hm;refine cd hm ?_ ?_<;>intro bh hm
   . refine qN ?_;have hm:=Q4j hm ac ae;exact re hm (aC.sE [2])
   exact lg hm ac (aC.sE [0,1,2])
 exact zr hm az

instance:Ct 7 @Z3h:=⟨@Z3h,cf7⟩
theorem Z9d{p0:List UInt8}(hS:Sep g T0 w0 [X3 R])(hG0:Gi T0 w0 0):∀r,Q6r p0=some r->
 Cl 3 #[Q16 p0.toArray] w0 (Q17 T0 w0 g R r):=by
 intro r hm;refine eN Tryz.func3 Tryz.ntmps3 fun J=>?_;unfold Q6r at hm;refine qN ?_;refine qU ?_;refine cB cf5 hm (Z0n (hS.bE [0] []) hG0) ?_;rintro D _ T1 _ _ ⟨a1,c1,a2,c2,a3,c3,rfl,am,h1,h2,h3,_⟩ hm;refine aL zv12 am ?_;intro _ I _ ao;refine sT 0 ao ?_;intro w3 _ aa;refine kB ?_;refine fkN (d:=20) (c:=((!D.2)||(decide (100<=(qQ D.1.Codes:Int))))) 5 [(0,(qZs p0)),(3,pt I 0)] rfl (fun hk=>zw (!D.2) hk) fun J=>?_;refine cd hm ?_ ?_<;>intro aT hm
 . refine qU ?_;refine cB cf6 hm (Q4e (aa.bE [1] []) (hG0.mono ch)) ?_;rintro _ _ _ _ _ ⟨rfl,aq,_⟩ hm;exact re hm (aq.sE [0])
 refine kC ?_;refine lpJ hm (fun ab o1 m a w5=>∃T3 O,JR (nf 82) g T1 w3 a w5 T3 (X8 ab m O=some o1) [(0,(qZs p0)),(3,pt I 0),(5,iv O)] [Q30 a1 a2 a3 I c1 c2 c3 D.1,X3 R]) (fun _ _ h=>je h (aa.sE [0,1])) ?_;rintro ab ar o1 af _ _ w5 ⟨T3,O,J,au,rfl,U,_⟩;obtain⟨m1,_,rfl,hm,V⟩:=lrE au ar;refine sq2 (sq2 (cd hm ?_ ?_))<;>intro aU hm
 . refine kE ?_;refine blk (sq2 ?_);obtain⟨u1,av,hm⟩:=Z9 hm;refine pu ?_;refine pv (r_ss rfl ⟨_,rfl⟩ ⟨_,rfl⟩ av underlying9) (cd hm ?_ ?_)<;>intro aV hm
   . refine qU ?_;refine cB cf6 hm (Q4e (U.bE [1] []) (hG0.mono ch)) ?_;rintro _ _ _ _ _ ⟨rfl,aw,_⟩ hm;refine pn ?_;have hm:=Q4j hm V af;exact re hm (aw.sE [0])
   exact lg hm V (U.sE [0,1])
 have hm:=Z0r hm V af;refine pn ?_;refine sq2 ?_;obtain⟨_,ax,hm⟩:=Z9 hm;refine pu ?_;refine pv (r_sad rfl rfl (K9 ax)) (cB cf5 hm (Z0n (U.bE [0,1] []) (hG0.mono ch)) ?_);rintro K _ _ _ _ ⟨_,c4,_,c5,_,c6,rfl,ay,h4,h5,W,_⟩ hm;refine aL zv12 ay ?_;intro _ b2 aC aD;refine sT 0 aD ?_;intro _ aE E;refine pn ?_;refine sq2 (sq2 (cd hm ?_ ?_))<;>intro aW hm
 . refine qU ?_;refine cB cf6 hm (Q4e (E.bE [2] []) (hG0.mono ch)) ?_;rintro _ _ _ _ _ ⟨rfl,aF,_⟩ hm;exact re hm (aF.sE [0])
 refine kB ?_;refine fkC (d:=57) (c:=((!K.2)||((qQ K.1.Codes:Int)!=(IntKind.wrap .i64 ((qQ D.1.Codes:Int)+1))))) 9 [(3,pt I 0),(6,pt b2 0)] rfl (fun hk=>zw (!K.2) hk) fun J=>pu ?_
 rcases bc hm with⟨aG,hm⟩|⟨aG,hm⟩
 . refine pn ?_;refine cnd (b:=true) rfl (fun _=>?_) (fun h=>nomatch h);exact sq2 (re hm (E.sE [2]))
 obtain⟨_,aI,hm⟩:=Z9 hm;obtain⟨cs1,aJ,_,hT1⟩:=ixS E aI W;obtain⟨_,c7,_,c8,rfl,_,_⟩:=Q7l aJ;refine cd hm ?_ ?_<;>intro aX hm
 . exact sq2 (re hm (E.sE [2]))
 refine pn ?_;refine sq2 ?_;obtain⟨u3,ag,hm⟩:=Z9 hm;obtain⟨_,c9,aM,h9⟩:=(W.mono (iT aC aE)).part ag;refine pu ?_;refine pv (r_slR rfl (mC W) rfl ⟨_,rfl⟩ ag underlying24 sizeOf32 rfl aM) (sT 0 E ?_);intro _ _ aP;refine kA ?_;refine cB cf6 hm (Q4e (aP.bE [0,1,2] []) (hG0.mono ch)) ?_;rintro _ _ _ _ _ ⟨rfl,ah,_⟩ hm;refine pu ?_
 rcases bc hm with⟨aQ,hm⟩|⟨aQ,hm⟩
 . refine pu ?_;refine cB cf7 hm (Z3h (p1:={K.1 with Codes:=u3}) (ah.bE [2] []) (mC h1) (mC h2) (mC h3) (mC h4) (mC h5) (mC h9)) ?_;rintro y7 _ _ _ _ ⟨rfl,aS,_⟩ hm;refine pu ?_;exact nil (E9 [(2,.bool y7)] ⟨rfl,qZt⟩ fun J=>re hm (aS.sE [0]))
 refine pu ?_;exact nil (E9 [(2,.bool false)] ⟨rfl,qZt⟩ fun J=>re hm (ah.sE [2]))
end Go.Proofs.YtfffghclkmbopaaGreat
