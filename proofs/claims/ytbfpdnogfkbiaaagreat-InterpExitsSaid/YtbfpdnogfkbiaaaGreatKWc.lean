/- That Go functions compute their models. Printed by gen2.py. -/
import Derived.Test.YtbfpdnogfkbiaaaGreatKWbb
set_option linter.unusedVariables false
namespace Go.Proofs.YtbfpdnogfkbiaaaGreat
open _root_.Go.Proofs.Tryz
set_option maxRecDepth 100000
set_option maxHeartbeats 8000000
attribute [local irreducible] wpList wpQuiet Code.wp
variable {g:World} {T0:Nat→Prop} {w0:World} {R:List Y9}
variable {b1 b2 Z9 Q0l Z8t Z8s Z9v c1 c2 c3 c4 c5 c6 c7 c8 c9 c10 c11 c12 c13 n1 n2 n3 n4 n5 n6 n7 Z8 Q0k Z7z Z7y Z9i oo1 oo2:Nat} {H1 H2 Z5 H6 Z5w Z5v Z8v:List Value→Y9} {a1 a2 a3 a4 a5 a6 a7 a8 a9 a10 a11 a12 a13:OA} {r1 r2:Option Nat} {pv1:Value}
attribute [local irreducible] N2 S0 execOp Program.underlying sizeOf isAgg zeroValue

theorem L4 {p0:Z7} {p1} (hS:Q36 a1 n1 c1 Z5 T0 g w0 R p0.list) (Z3:Ln Z9 Z8 Z5) : ∀ r,N6 p0 p1=some r →
    Cl 145 #[pt Z9 Z8,iv p1] w0 (K2 T0 w0 fun T w v => ∃ a4 c4,v = .tuple #[.agg (Y7g r.1 a4 c4).toArray,iv r.2]∧Sep g T w (R ++ [Q92 a1 n1 c1 Z5,Q12 a1 n1 c1 p0.list])∧Q63 a4 c4 T w r.1.Fields∧True):=by
  intro r hm;refine enter func145 rfl ntmps145 rfl fun J => ?_;unfold N6 at hm;exact zr hm hS

instance : Ct 145 @L4:=⟨@L4,Y8r⟩
theorem F3 {p0:Q0} {p1} (hS:Q28 a1 a2 a3 a4 a5 a6 b1 oo1 n1 c1 n2 c2 n3 c3 n4 c4 n5 c5 n6 c6 Z5 H1 T0 g w0 pv1 r1 r2 R p0) (Z3:Ln Z9 Z8 Z5) (hL1:Ln b1 oo1 H1) : ∀ r,I0 p0 p1=some r →
    Cl 109 #[pt Z9 Z8,iv p1] w0 (K2 T0 w0 fun T w v=>v=iv r∧Q22 a1 a2 a3 a4 a5 a6 b1 oo1 n1 c1 n2 c2 n3 c3 n4 c4 n5 c5 n6 c6 Z5 H1 T g w pv1 r1 r2 R p0):=by
  intro r hm;refine enter func109 rfl ntmps109 rfl fun J => ?_;unfold I0 at hm;exact zr hm hS

instance : Ct 109 @F3:=⟨@F3,Y2m⟩
theorem Q2z {p0:Q0} {p1:N0} {p2} (hS:Q28 a1 a2 a3 a4 a5 a6 b1 oo1 n1 c1 n2 c2 n3 c3 n4 c4 n5 c5 n6 c6 Z5 H1 T0 g w0 pv1 r1 r2 R p0) (Z3:Ln Z9 Z8 Z5) (hL1:Ln b1 oo1 H1) (h1:Q15 a7 c7 T0 w0 p1.Dims) (h2:Q10 a8 c8 T0 w0 p1.Init) : ∀ r,Q0j p0 p1 p2=some r →
    Cl 106 #[pt Z9 Z8,Q105 a7 a8 c7 c8 p1,iv p2] w0 (exR r (fun r=>K2 T0 w0 fun T w v => ∃ a10 c10,v=sv a10 r c10∧Sep g T w (R++X3 p0 Z5 H1 b1 oo1 a1 n1 c1 a2 n2 c2 a3 n3 c3 a4 n4 c4 r1 r2 a5 n5 c5 a6 n6 c6 pv1)∧SlR F0 T w (sv a10 r c10) r∧True) (fun r=>C7 T0 w0 (Q61 a1 a2 a3 a4 a5 a6 b1 oo1 n1 c1 n2 c2 n3 c3 n4 c4 n5 c5 n6 c6 Z5 H1 g pv1 r1 r2 R r.pos r.e p0))):=by
  intro r hm;refine enter func106 rfl ntmps106 rfl fun J => ?_;unfold Q0j at hm;refine sq2 (bX (Y1k p1 a7 c7 a8 c8) hS ?_);intro _ E _ I;refine pn ?_;refine sq2 (sq2 (cd hm ?_ ?_)) <;> intro ad hm
  · exact zr hm I
  refine kA ?_;refine cB Y8r hm (L4 (I.bE ([0,1,2]++Z2 5 7) [3,4]) hL1) ?_;rintro D _ _ _ _ ⟨_,c9,rfl,U,_,_⟩ hm;refine aL zv9 U ?_;intro _ V _ W;refine sT 0 W ?_;intro _ _ K;refine kD ?_;refine sq2 (blk (qU ?_));refine pv (r_bn rfl rfl underlying4) (pu ?_)
  rcases bc hm with ⟨aa,hm⟩ | ⟨aa,hm⟩
  · exact zr hm K
  refine pu ?_;refine cB Y2m hm (F3 (K.bE [0,1,2] ([3,11,12]++Z2 4 7)) Z3 hL1) ?_;rintro _ _ _ _ _ ⟨rfl,ab,_⟩ hm;refine pu ?_;refine cB cf105 hm (W9 (ab.bE [0,1,2] (Z2 3 10)) Z3 hL1) ?_;rintro y3 _ _ _ _ ⟨rfl,O,_⟩ hm;refine pu ?_;refine nil (K1 [(4,pt E 0),(7,pt V 0),(9,.bool (D.1.Kind == 4)),(26,.bool (y3 == 0))] ⟨rfl,rfl,rfl,rfl,qZt⟩ fun J => ?_);refine cd hm ?_ ?_ <;> intro ae hm
  · exact zr hm O
  refine qU ?_;exact fkC (d:=51) (c:=((D.1.Kind == 4)&&(decide (D.1.Len < (List.length p1.Init:Int))))) 7 [(4,pt E 0)] rfl (fun hk=>zw (D.1.Kind == 4) hk) fun J=>zr hm O

instance : Ct 106 @Q2z:=⟨@Q2z,cf106⟩
theorem Q2v {p0:J7} {p1:List UInt8} (hS:Sep g T0 w0 ([Y6 R]++Z5s p0 Z5 a1 n1 c1 a2 n2 c2 a3 n3 c3)) (Z3:Ln Z9 Z8 Z5) : ∀ r,Q0f p0 p1=some r →
    Cl 193 #[pt Z9 Z8,Q23 p1.toArray] w0 (K2 T0 w0 fun T w v=>v = .tuple #[iv r.1,.bool r.2]∧Sep g T w (R++Z5s p0 Z5 a1 n1 c1 a2 n2 c2 a3 n3 c3)∧True):=by
  intro r hm;refine enter func193 rfl ntmps193 rfl fun J => ?_;unfold Q0f at hm;refine qN ?_;refine sq2 (qN ?_);refine lpJ hm (fun W o1 m a D => ∃ E I,JR (nf 33) g T0 w0 a D E (X5 W m I=some o1) [(0,pt Z9 Z8),(1,(qZs p1)),(6,iv I)] ([Y6 R]++Z5s p0 Z5 a1 n1 c1 a2 n2 c2 a3 n3 c3)) (fun _ _ h=>je h (hS.sE (Z2 0 5))) ?_;rintro W ab o1 _ _ _ D ⟨E,I,J,ac,rfl,V,_⟩;obtain⟨m1,_,rfl,hm,ad⟩:=lrE ac ab;refine sq2 (sq2 (cd hm ?_ ?_)) <;> intro ap hm
  · refine kE ?_;refine blk (qU ?_);obtain⟨u1,K,hm⟩:=Y0 hm;obtain⟨_,of1,k1,cp1,hv1,_,_,ae⟩:=V.nhd (q:=4) ⟨rfl,rfl⟩ K rfl;obtain⟨css1,cs1,af⟩:=V.nfocus (q:=4) ⟨rfl,rfl⟩ K;obtain⟨O,ag⟩:=af.exE;obtain⟨hcs1,ah⟩:=ag.pE;subst hcs1;have U:=ah.unb;refine pu ?_;refine pv (Z2r rfl isAgg80 (U.cellB (i:=6) ⟨rfl,rfl⟩ (S9 (i:=I) hv1 ae) (j:=0) rfl)) (pu ?_);refine pv (Z7u (kk:=p1) (u:=0) rfl rfl (U.getA (i:=0) ⟨rfl,rfl⟩) Z1s underlying80 underlying9 zeroValue3 rfl) (pn ?_);refine sq2 (cd hm ?_ ?_) <;> intro aq hm
    · refine qN ?_;have ai:=U.bE [0] (Z2 1 6);have aj:Sep g E D (Y2i.A u1 [.map O]::_):=Sep.exI (O) (Sep.pI rfl ai);have ak:=aj.nunfocus0 (q:=4) ⟨rfl,rfl⟩ K;exact zr hm ak
    refine pn ?_;have am:=U.bE [0] (Z2 1 6);have an:Sep g E D (Y2i.A u1 [.map O]::_):=Sep.exI (O) (Sep.pI rfl am);have ao:=an.nunfocus0 (q:=4) ⟨rfl,rfl⟩ K;exact lg hm ad (ao.sE (Z2 0 5))
  exact zr hm V

instance : Ct 193 @Q2v:=⟨@Q2v,cf193⟩
theorem Z3c {p0:Q0} {p1:Y7} (hS:Q33 a1 a2 a3 a4 a5 a6 b1 oo1 n1 c1 n2 c2 n3 c3 n4 c4 n5 c5 n6 c6 Z5 H1 T0 g w0 pv1 r1 r2 R p0) (Z3:Ln Z9 Z8 Z5) (hL1:Ln b1 oo1 H1) (h1:Q10 a7 c7 T0 w0 p1.Kids) : ∀ r,Q5b p0 p1=some r →
    Cl 173 #[pt Z9 Z8,Q41 a7 c7 p1] w0 (exR r (fun r=>K2 T0 w0 fun T w v => ∃ a11 c11,v = .agg (R8 r.1 a11 c11).toArray∧Sep g T w (R++(Q2 a1 a2 a3 a4 a5 a6 b1 oo1 n1 c1 n2 c2 n3 c3 n4 c4 n5 c5 n6 c6 Z5 H1 pv1 r1 r2 r.2))∧Q80 a11 c11 T w r.1∧True) (fun r=>C7 T0 w0 fun T w v=>v = .iface 89 (Q25 r.1.pos r.1.e)∧Sep g T w (R++(Q2 a1 a2 a3 a4 a5 a6 b1 oo1 n1 c1 n2 c2 n3 c3 n4 c4 n5 c5 n6 c6 Z5 H1 pv1 r1 r2 r.2))∧True)):=by
  intro r hm;refine enter func173 rfl ntmps173 rfl fun J => ?_;unfold Q5b at hm;refine sq2 (bX (F5 p1 a7 c7) hS ?_);intro _ b2 _ ak;refine aL zv1 ak ?_;intro w2 W _ aa;refine pn ?_;refine N5 hm (fun ad a w3 => ∃ T1,JR (nf 63) g T0 w2 a w3 T1 (ad ()=some r) [(0,pt Z9 Z8),(3,pt b2 0),(4,pt W 0)] ((Q97 a7 W b2 c7 R p1)++(Q2 a1 a2 a3 a4 a5 a6 b1 oo1 n1 c1 n2 c2 n3 c3 n4 c4 n5 c5 n6 c6 Z5 H1 pv1 r1 r2 p0))) (fun ad hm => ?_) ?_
  · refine sq2 ?_;obtain⟨u1,an,hm⟩:=Y0 hm;refine pu ?_;refine pv (r_opn rfl rfl (aa.optV (q:=13) ⟨rfl,rfl⟩ an) underlying83) (cd hm ?_ ?_) <;> intro aK hm
    · refine sq2 (rsS [0,0,0,1,0,1,2,0,0,0,0,0] [0,1,2,3,4,5,6,7,8,9,10,11] aa fun w4 aN ao=>pu ?_);obtain⟨D,ab,hm⟩:=Y0 hm;obtain⟨b4,cs1,aq,ar⟩:=ao.optE (q:=13) ⟨rfl,rfl⟩ ab;subst aq;obtain⟨⟨E,I,c8,K,O,c9,U,V,c10⟩,au⟩:=ar.exE;obtain⟨hcs1,av⟩:=au.pE;subst hcs1;have aw:=av.unb;obtain⟨y1,ax,hm⟩:=Y0 hm;refine sS [] cf193 (Q2v (aw.bE (Z2 3 13) [16,0,1,2]) (Q3m b4) _ ax) ?_;rintro _ T2 w5 _ ⟨rfl,ai,_⟩;refine pn ?_;refine sq2 (cd hm ?_ ?_) <;> intro aP hm
      · refine sq2 ?_;obtain⟨u3,_,hm⟩:=Y0 hm;refine pu ?_;refine pv (G3 (by kernel_rfl) rfl (u := .agg #[iv 2,iv 0,.int .u32 0,iv y1.1,.bool false,iv 0,.bool false,.bool true,.slice none 0 0])) (pv (G3 (by kernel_rfl) rfl (u := .agg #[iv u3,iv 2,iv 0,.int .u32 0,iv y1.1,.bool false,iv 0,.bool false,.bool true,.slice none 0 0,.bool true])) (sT 0 ai ?_));intro w6 _ aB;refine nil (K1 [(4,pt W 0)] ⟨rfl,qZt⟩ fun J => ?_);have aC:=aB.bE [14,15,16] (Z2 0 14);have aD:Sep g T2 w6 (U5.A D [iv D.ret,.slice E I c8,.slice K O c9,.slice U V c10,iv D.loops,iv D.breaks]::_):=Sep.exI (E,I,c8,K,O,c9,U,V,c10) (Sep.pI rfl aC);have aE:=aD.optI0 (q:=13) ⟨rfl,rfl⟩ ab;exact re hm (aE.sE (Z2 2 12))
      have aF:=ai.bE [14,15,16] (Z2 0 14);have aG:Sep g T2 w5 (U5.A D [iv D.ret,.slice E I c8,.slice K O c9,.slice U V c10,iv D.loops,iv D.breaks]::_):=Sep.exI (E,I,c8,K,O,c9,U,V,c10) (Sep.pI rfl aF);have aI:=aG.optI0 (q:=13) ⟨rfl,rfl⟩ ab;exact je hm (aI.sE (Z2 0 14))
    exact je hm (aa.sE (Z2 0 14))
  rintro _ w3 ⟨T1,J,hm,rfl,aj,_⟩;refine sq2 (rqS aj (pu ?_));refine qv (fun _ hq=>(hq.elim fun _ hi=>Z7u (kk:=p1.Name) (u:=0) rfl rfl ((aj.keep hi (fun _ h=>h)).getA (i:=9) ⟨rfl,rfl⟩) Z1s underlying80 underlying9 zeroValue3 rfl)) (pn ?_);intro _ _ _ aJ;exact zr hm aJ

instance : Ct 173 @Z3c:=⟨@Z3c,cf173⟩
theorem Q2x {p0:Q0} {p1:Pos} {p2} (hS:Q28 a1 a2 a3 a4 a5 a6 b1 oo1 n1 c1 n2 c2 n3 c3 n4 c4 n5 c5 n6 c6 Z5 H1 T0 g w0 pv1 r1 r2 R p0) (Z3:Ln Z9 Z8 Z5) (hL1:Ln b1 oo1 H1) : ∀ r,Q0h p0 p1 p2=some r →
    Cl 172 #[pt Z9 Z8,Q48 p1,iv p2] w0 (exR r (fun r=>K2 T0 w0 (Q98 a2 a3 a4 a5 a6 b1 oo1 n2 c2 n3 c3 n4 c4 n5 c5 n6 c6 Z5 H1 g pv1 r1 r2 R r.1 r.2)) (fun r=>C7 T0 w0 (Q49 a2 a3 a4 a5 a6 b1 oo1 n2 c2 n3 c3 n4 c4 n5 c5 n6 c6 Z5 H1 g pv1 r1 r2 R r.1.pos r.1.e r.2))):=by
  intro r hm;refine enter func172 rfl ntmps172 rfl fun J => ?_;unfold Q0h at hm;exact zr hm hS

instance : Ct 172 @Q2x:=⟨@Q2x,cf172⟩
theorem W7 {p0:Q0} {p1} (hS:Q28 a1 a2 a3 a4 a5 a6 b1 oo1 n1 c1 n2 c2 n3 c3 n4 c4 n5 c5 n6 c6 Z5 H1 T0 g w0 pv1 r1 r2 R p0) (Z3:Ln Z9 Z8 Z5) (hL1:Ln b1 oo1 H1) : ∀ r,M2 p0 p1=some r →
    Cl 179 #[pt Z9 Z8,iv p1] w0 (K2 T0 w0 fun T w v=>v = .tuple #[iv r.1,.bool r.2]∧Q22 a1 a2 a3 a4 a5 a6 b1 oo1 n1 c1 n2 c2 n3 c3 n4 c4 n5 c5 n6 c6 Z5 H1 T g w pv1 r1 r2 R p0):=by
  intro r hm;refine enter func179 rfl ntmps179 rfl fun J => ?_;unfold M2 at hm;refine qN ?_;refine qU ?_;refine cB Y8r hm (L4 (hS.bE ([0,1]++Z2 4 7) [2,3]) hL1) ?_;rintro E _ _ _ _ ⟨_,c7,rfl,I,h1,_⟩ hm;refine aL zv9 I ?_;intro _ _ _ K;refine sT 0 K ?_;intro _ _ O;refine kE ?_;refine rsS [0,1,0,1,0,0,0,0,0,1,0,1,2,0,0,0,0] [0,1,2,3,4,5,6,7,8,9,10,11,12,13,14,15,16] O fun w4 ab D=>pu ?_
  rcases bc hm with ⟨U,hm⟩ | ⟨U,hm⟩
  · obtain⟨_,V,hm⟩:=Y0 hm;refine sS [(1,iv E.1.Elem)] Z1i (V4 (D.bE (Z2 1 9 ++ [0]) [10,11]) hL1 _ V) ?_;have W:KD [(12,[3,9,11])]:=⟨qZt⟩;exact zo hm
  have W:KD [(12,[3,9,11])]:=⟨qZt⟩;exact zr hm D

instance : Ct 179 @W7:=⟨@W7,cf179⟩
theorem Y3 {p0:Q0} {p1} (hS:Q28 a1 a2 a3 a4 a5 a6 b1 oo1 n1 c1 n2 c2 n3 c3 n4 c4 n5 c5 n6 c6 Z5 H1 T0 g w0 pv1 r1 r2 R p0) (Z3:Ln Z9 Z8 Z5) (hL1:Ln b1 oo1 H1) : ∀ r,X1 p0 p1=some r →
    Cl 146 #[pt Z9 Z8,iv p1] w0 (K2 T0 w0 fun T w v=>v = .bool r∧Q22 a1 a2 a3 a4 a5 a6 b1 oo1 n1 c1 n2 c2 n3 c3 n4 c4 n5 c5 n6 c6 Z5 H1 T g w pv1 r1 r2 R p0):=by
  intro r hm;refine enter func146 rfl ntmps146 rfl fun J => ?_;unfold X1 at hm;exact zr hm hS

instance : Ct 146 @Y3:=⟨@Y3,Q1c⟩
theorem Z0t {p0:List UInt8} (hS:Sep g T0 w0 [Y6 R])  : ∀ r,Z2e p0=some r →
    Cl 195 #[Q23 p0.toArray] w0 (Q37 T0 w0 g R r):=by
  intro r hm;refine enter func195 rfl ntmps195 rfl fun J => ?_;unfold Z2e at hm;exact zr hm hS

instance : Ct 195 @Z0t:=⟨@Z0t,cf195⟩
theorem Q5a {p0:Y7} (hS:Sep g T0 w0 [Y6 R]) (h1:Q10 a1 c1 T0 w0 p0.Kids) : ∀ r,Q9d p0=some r →
    Cl 147 #[Q41 a1 c1 p0] w0 (Q26 T0 w0 g R r):=by
  intro r hm;refine enter func147 rfl ntmps147 rfl fun J => ?_;unfold Q9d at hm;refine sq2 (bX (F5 p0 a1 c1) hS ?_);intro _ _ _ D;refine kA ?_;exact fkC (d:=10) (c:=((p0.Kind == 1)&&(p0.Num == 0))) 4 [] rfl (fun hk=>zw (p0.Kind == 1) hk) fun J=>re hm (D.sE [1])

instance : Ct 147 @Q5a:=⟨@Q5a,Y8q⟩
theorem Q2u  (hS:Sep g T0 w0 [Y6 R])  : ∀ r,Q1l=some r →
    Cl 148 #[] w0 (K2 T0 w0 fun T w v => ∃ a1 c1,v = .agg (V8 r a1 c1).toArray∧Sep g T w (R ++ [])∧Q11 a1 c1 T w r.Kids∧True):=by
  intro r hm;refine enter func148 rfl ntmps148 rfl fun J => ?_;unfold Q1l at hm;exact zr hm hS

instance : Ct 148 @Q2u:=⟨@Q2u,X1o⟩
theorem Z2j {p0:Q0} {p1:Y7} {p2:Y1} {p3:Y1} (hS:Q28 a1 a2 a3 a4 a5 a6 b1 oo1 n1 c1 n2 c2 n3 c3 n4 c4 n5 c5 n6 c6 Z5 H1 T0 g w0 pv1 r1 r2 R p0) (Z3:Ln Z9 Z8 Z5) (hL1:Ln b1 oo1 H1) (h1:Q10 a7 c7 T0 w0 p1.Kids) (h2:Q80 a8 c8 T0 w0 p2) (h3:Q80 a9 c9 T0 w0 p3) : ∀ r,Q3s p0 p1 p2 p3=some r →
    Cl 196 #[pt Z9 Z8,Q41 a7 c7 p1,Q91 a8 c8 p2,Q91 a9 c9 p3] w0 (exR r (fun r=>K2 T0 w0 fun T w v => ∃ a21 c21,v = .agg (R8 r a21 c21).toArray∧Sep g T w (R++X3 p0 Z5 H1 b1 oo1 a1 n1 c1 a2 n2 c2 a3 n3 c3 a4 n4 c4 r1 r2 a5 n5 c5 a6 n6 c6 pv1)∧Q80 a21 c21 T w r∧True) (fun r=>C7 T0 w0 (Q61 a1 a2 a3 a4 a5 a6 b1 oo1 n1 c1 n2 c2 n3 c3 n4 c4 n5 c5 n6 c6 Z5 H1 g pv1 r1 r2 R r.pos r.e p0))):=by
  intro r hm;refine enter func196 rfl ntmps196 rfl fun J => ?_;unfold Q3s at hm;refine sq2 (bX (F5 p1 a7 c7) hS ?_);intro _ b2 _ aB;refine bX (R8 p2 a8 c8) aB ?_;intro _ b3 _ aC;refine bX (R8 p3 a9 c9) aC ?_;intro _ b4 _ aD;refine aL zv1 aD ?_;intro w4 D _ aF;refine pn ?_;refine N5 hm (fun ai a E => ∃(I:_) (V:_) (K:Y7) (W:_) (c10:_) (b7:_) (O:Y7) (ab:_) (c11:_),JR (nf 71) g T0 w4 a E I (ai K O=some r) [(0,pt Z9 Z8),(5,pt b2 0),(6,pt b3 0),(7,pt b4 0),(8,pt D 0),(9,pt V 0),(10,pt b7 0)] ([U6 D zv1,Q46 a9 b4 c9 p3,Q46 a8 b3 c8 p2,Q32 a7 b2 c7 p1,Y6 R]++(X3 p0 Z5 H1 b1 oo1 a1 n1 c1 a2 n2 c2 a3 n3 c3 a4 n4 c4 r1 r2 a5 n5 c5 a6 n6 c6 pv1 ++ [Q32 W V c10 K,Q32 ab b7 c11 O]))∧Q10 W c10 I E K.Kids∧Q10 ab c11 I E O.Kids) (fun ai hm => ?_) ?_
  · refine rtS [0,1,0,1,0,1,0,1,2,2,2,2] [0,1,2,3,4,5,6,7,8,9,10,11] aF fun w6 bn aG => ?_;have dd:KD [(8,[]),(9,[]),(10,[1,3,8,9]),(11,[1,3,5,7,8,9,10])]:=⟨qZt⟩;exact zr hm aG
  rintro _ E ⟨I,V,K,W,c10,b7,O,ab,c11,⟨J,hm,rfl,aI,_⟩,h4,h5⟩;refine qU ?_;refine cB cf195 hm (Z0t (aI.bE ([0,1,2]++Z2 4 13) [])) ?_;rintro y1 _ T2 _ _ ⟨rfl,aN,_⟩ hm;refine pv (G3 (by kernel_rfl) rfl (u := .agg #[iv 6,iv y1,.int .u32 0,iv 0,.bool false,iv 0,.bool false,.bool false,.slice none 0 0])) (aL zv3 aN ?_);intro _ ak _ aP;refine sT 0 aP ?_;intro aQ _ aR;refine pn ?_;have aS:=aR.nilO X6 197;refine N5 hm (fun am a an => ∃(T3:_) (U:Y5) (ad:_) (n7:_) (c14:_),JR (nf 71) g T2 aQ a an T3 (am U=some r) [(8,pt D 0),(11,pt ak 0)] ([Q89 ad n7 c14 U.Kids,Q50 ad ak n7 c14 U,U6 D zv1,Y6 R]++X3 p0 Z5 H1 b1 oo1 a1 n1 c1 a2 n2 c2 a3 n3 c3 a4 n4 c4 r1 r2 a5 n5 c5 a6 n6 c6 pv1)) (fun am hm => ?_) ?_
  · refine blk (qU ?_);refine cB Q1c hm (Y3 (aS.bE (Z2 0 6 ++ [16,17]) (Z2 6 10)) Z3 hL1) ?_;rintro _ _ _ _ _ ⟨rfl,ap,_⟩ hm;refine pu ?_
    rcases bc hm with ⟨aT,hm⟩ | ⟨aT,hm⟩
    · refine pu ?_;refine cB Y8q hm (Q5a (ap.bE (Z2 0 18) []) (h5.mono ch)) ?_;rintro _ _ _ _ _ ⟨rfl,aq,_⟩ hm;refine cd hm ?_ ?_ <;> intro bo hm
      · refine rsS [0,1,2,2,0,2] [0,1,2,3,4,5] aq fun bp bq aU => ?_;obtain⟨y4,aV,hm⟩:=Y0 hm;refine sS [(1,.agg (V8 p2.term a8 c8).toArray)] X1o (Q2u (aU.bE ([0,1,2,5]++Z2 8 10 ++ [4]) []) _ aV) ?_;rintro _ _ _ _ ⟨aW,c15,rfl,aX,_,_⟩;have au:HL 1 X6 ([p2.term,y4]:List Y5) [(V8 p2.term a8 c8),(V8 y4 aW c15)]:=⟨qZt⟩;have dd:KD [(2,[]),(3,[1,2]),(5,[1,2,3])]:=⟨qZt⟩;exact zr hm aX
      refine qU ?_;refine cB Q1c hm (Y3 (aq.bE (Z2 0 8) (Z2 8 10)) Z3 hL1) ?_;rintro _ _ _ _ _ ⟨rfl,av,_⟩ hm;refine pu ?_
      rcases bc hm with ⟨aY,hm⟩ | ⟨aY,hm⟩
      · refine pu ?_;refine cB Y8q hm (Q5a (av.bE (Z2 0 18) []) (h4.mono ch)) ?_;rintro _ _ _ _ _ ⟨rfl,aw,_⟩ hm;refine cd hm ?_ ?_ <;> intro bt hm
        · refine rsS [2,0,1,2,0,2] [1,2,0,3,4,5] aw fun bu bv aZ => ?_;obtain⟨y7,ba,hm⟩:=Y0 hm;refine sS [(2,.agg (V8 p3.term a9 c9).toArray)] X1o (Q2u (aZ.bE ([0,1,2,5]++Z2 8 10 ++ [3]) []) _ ba) ?_;rintro _ _ _ _ ⟨be,c17,rfl,bf,_,_⟩;have au:HL 1 X6 ([y7,p3.term]:List Y5) [(V8 y7 be c17),(V8 p3.term a9 c9)]:=⟨qZt⟩;have dd:KD [(0,[]),(3,[0,2]),(5,[0,2,3])]:=⟨qZt⟩;exact zr hm bf
        exact zr hm aw
      exact zr hm av
    refine pn ?_;refine cnd (b:=false) rfl (fun h=>nomatch h) (fun _=>qU ?_);refine cB Q1c hm (Y3 (ap.bE (Z2 0 8) (Z2 8 10)) Z3 hL1) ?_;rintro _ _ _ _ _ ⟨rfl,ay,_⟩ hm;refine pu ?_
    rcases bc hm with ⟨bg,hm⟩ | ⟨bg,hm⟩
    · refine pu ?_;refine cB Y8q hm (Q5a (ay.bE (Z2 0 18) []) (h4.mono ch)) ?_;rintro _ _ _ _ _ ⟨rfl,az,_⟩ hm;refine cd hm ?_ ?_ <;> intro bw hm
      · refine rsS [2,0,1,2,0,2] [1,2,0,3,4,5] az fun bz bA bh => ?_;obtain⟨aA,bi,hm⟩:=Y0 hm;refine sS [(2,.agg (V8 p3.term a9 c9).toArray)] X1o (Q2u (bh.bE ([0,1,2,5]++Z2 8 10 ++ [3]) []) _ bi) ?_;rintro _ _ _ _ ⟨bj,c19,rfl,bk,_,_⟩;have au:HL 1 X6 ([aA,p3.term]:List Y5) [(V8 aA bj c19),(V8 p3.term a9 c9)]:=⟨qZt⟩;have dd:KD [(0,[]),(3,[0,2]),(5,[0,2,3])]:=⟨qZt⟩;exact zr hm bk
      exact zr hm az
    exact zr hm ay
  rintro _ an ⟨T3,U,ad,n7,c14,J,hm,rfl,bl,_⟩;exact zr hm bl

instance : Ct 196 @Z2j:=⟨@Z2j,cf196⟩
theorem Q8i {p0:Q0} {p1:Y5} {p2:Y5} {p3 p4} (hS:Q28 a1 a2 a3 a4 a5 a6 b1 oo1 n1 c1 n2 c2 n3 c3 n4 c4 n5 c5 n6 c6 Z5 H1 T0 g w0 pv1 r1 r2 R p0) (Z3:Ln Z9 Z8 Z5) (hL1:Ln b1 oo1 H1) (h1:Q11 a7 c7 T0 w0 p1.Kids) (h2:Q11 a8 c8 T0 w0 p2.Kids) : ∀ r,L7 p0 p1 p2 p3 p4=some r →
    Cl 180 #[pt Z9 Z8,Q54 a7 c7 p1,Q54 a8 c8 p2,iv p3,iv p4] w0 (K2 T0 w0 (Q75 a1 a2 a3 a4 a5 a6 b1 oo1 n1 c1 n2 c2 n3 c3 n4 c4 n5 c5 n6 c6 Z5 H1 g pv1 r1 r2 R r p0 r.Kids)):=by
  intro r hm;refine enter func180 rfl ntmps180 rfl fun J => ?_;unfold L7 at hm;refine sq2 (bX (V8 p1 a7 c7) hS ?_);intro _ _ _ E;refine bX (V8 p2 a8 c8) E ?_;intro _ _ _ I;refine aL zv3 I ?_;intro _ _ _ K;refine kE ?_;refine rtS [0,0,0,0,1,0,2,1,1,2,0,2] [0,1,2,3,4,5,7,8,6,9,10,11] K fun w4 af D => ?_;obtain⟨O,U,hm⟩:=Y0 hm;refine tF [6,9] ?_;refine⟨?_,?_,qZt⟩
  · refine brW [9,10,11] [1,1,0] ?_;refine oS Z1i (V4 (D.bE ([0,3,4]++Z2 7 7 ++ [1,2]) [5,6]) hL1 _ U) ?_;rintro _ _ _ _ ⟨rfl,V,_⟩;refine t1W [9] [10,11] [0,0] ?_;refine obS (r:=X6) (l:=([p1,p2]:List Y5)) (css := [(V8 p1 a7 c7),(V8 p2 a8 c8)]) V ⟨(V7 (x:=p1) (h1.mono ch):X6.rp _ _ _ _),(V7 (x:=p2) (h2.mono ch):X6.rp _ _ _ _),qZt⟩ ?_;intro _ W n7 c9 _ ab;refine pu ?_;refine t0 rfl qZt (fun _=>G3 (by kernel_rfl) rfl (u := .agg #[iv 14,iv p4,.int .u32 0,iv 0,.bool false,iv O,.bool false,.bool true,.slice W n7 c9])) rfl (t1W [11] [] [] ?_);refine osT 1 ab ?_;intro _ _ ac;refine pn ?_;obtain⟨_,_,ad,_,rfl⟩:=ac.sl 0;exact re hm (ad.sE ([2,3,13,14]++Z2 4 7))
  have ag:HL 1 X6 ([p1,p2]:List Y5) [(V8 p1 a7 c7),(V8 p2 a8 c8)]:=⟨qZt⟩;have dd:KD [(6,[4]),(9,[7,8]),(11,[4,6,7,8,9])]:=⟨qZt⟩;exact zr hm D

instance : Ct 180 @Q8i:=⟨@Q8i,cf180⟩
theorem Z2i {p0:Q0} {p1:Pos} {p2:Y1} {p3:Y5} {p4} (hS:Q28 a1 a2 a3 a4 a5 a6 b1 oo1 n1 c1 n2 c2 n3 c3 n4 c4 n5 c5 n6 c6 Z5 H1 T0 g w0 pv1 r1 r2 R p0) (Z3:Ln Z9 Z8 Z5) (hL1:Ln b1 oo1 H1) (h1:Q80 a7 c7 T0 w0 p2) (h2:Q11 a8 c8 T0 w0 p3.Kids) : ∀ r,Q0i p0 p1 p2 p3 p4=some r →
    Cl 197 #[pt Z9 Z8,Q48 p1,Q91 a7 c7 p2,Q54 a8 c8 p3,iv p4] w0 (exR r (fun r=>K2 T0 w0 fun T w v => ∃ a10 c10,v = .agg (R8 r a10 c10).toArray∧Sep g T w (R++X3 p0 Z5 H1 b1 oo1 a1 n1 c1 a2 n2 c2 a3 n3 c3 a4 n4 c4 r1 r2 a5 n5 c5 a6 n6 c6 pv1)∧Q80 a10 c10 T w r∧True) (fun r=>C7 T0 w0 (Q61 a1 a2 a3 a4 a5 a6 b1 oo1 n1 c1 n2 c2 n3 c3 n4 c4 n5 c5 n6 c6 Z5 H1 g pv1 r1 r2 R r.pos r.e p0))):=by
  intro r hm;refine enter func197 rfl ntmps197 rfl fun J => ?_;unfold Q0i at hm;refine sq2 (bX [iv p1.Line,iv p1.Col] hS ?_);intro _ _ _ E;refine bX (R8 p2 a7 c7) E ?_;intro _ _ _ I;refine bX (V8 p3 a8 c8) I ?_;intro _ _ _ K;refine aL zv1 K ?_;intro _ _ _ O;refine kA ?_;refine cB cf179 hm (W7 (O.bE (Z2 0 5) (Z2 5 10)) Z3 hL1) ?_;rintro _ _ _ _ _ ⟨rfl,D,_⟩ hm;refine pn ?_;refine sq2 (sq2 (cd hm ?_ ?_)) <;> intro V hm
  · exact zr hm D
  refine kE ?_;refine rsS [0,1,0,0,1,1,0,0,2,0,2] [0,1,2,3,4,5,6,7,8,9,10] D fun W aa U => ?_;have dd:KD [(8,[4,5]),(10,[1,4,5,8])]:=⟨qZt⟩;exact zr hm U

instance : Ct 197 @Z2i:=⟨@Z2i,cf197⟩
theorem V9 {p0:Q0} {p1:Y7} {p2:Y1} {p3} (hS:Q28 a1 a2 a3 a4 a5 a6 b1 oo1 n1 c1 n2 c2 n3 c3 n4 c4 n5 c5 n6 c6 Z5 H1 T0 g w0 pv1 r1 r2 R p0) (Z3:Ln Z9 Z8 Z5) (hL1:Ln b1 oo1 H1) (h1:Q10 a7 c7 T0 w0 p1.Kids) (h2:Q80 a8 c8 T0 w0 p2) : ∀ r,B6 p0 p1 p2 p3=some r →
    Cl 107 #[pt Z9 Z8,Q41 a7 c7 p1,Q91 a8 c8 p2,iv p3] w0 (exR r (fun r=>K2 T0 w0 (Q75 a1 a2 a3 a4 a5 a6 b1 oo1 n1 c1 n2 c2 n3 c3 n4 c4 n5 c5 n6 c6 Z5 H1 g pv1 r1 r2 R r p0 r.Kids)) (fun r=>C7 T0 w0 (Q61 a1 a2 a3 a4 a5 a6 b1 oo1 n1 c1 n2 c2 n3 c3 n4 c4 n5 c5 n6 c6 Z5 H1 g pv1 r1 r2 R r.pos r.e p0))):=by
  intro r hm;refine enter func107 rfl ntmps107 rfl fun J => ?_;unfold B6 at hm;refine sq2 (bX (F5 p1 a7 c7) hS ?_);intro _ D _ ad;refine bX (R8 p2 a8 c8) ad ?_;intro _ E _ ae;refine aL zv3 ae ?_;intro _ I _ af;refine kE ?_;refine blk (qU ?_);refine cB Q1c hm (Y3 (af.bE (Z2 0 4) (Z2 4 10)) Z3 hL1) ?_;rintro _ _ _ _ _ ⟨rfl,K,_⟩ hm;refine pu ?_
  rcases bc hm with ⟨ag,hm⟩ | ⟨ag,hm⟩
  · refine pu ?_;refine cB Y8q hm (Q5a (K.bE (Z2 0 14) []) (h1.mono ch)) ?_;rintro _ _ _ _ _ ⟨rfl,O,_⟩ hm;refine cd hm ?_ ?_ <;> intro aj hm
    · exact zr hm O
    refine qU ?_;refine cB Q1c hm (Y3 (O.bE (Z2 0 4) (Z2 4 10)) Z3 hL1) ?_;rintro U _ _ _ _ ⟨rfl,V,_⟩ hm;refine pu ?_;refine fkC (d:=27) (c:=(U&&(p2.n == p3))) 5 [(0,pt Z9 Z8),(3,iv p3),(5,pt D 0),(6,pt E 0),(8,pt I 0)] rfl (fun hk=>zw U hk) fun J => ?_;refine cd hm ?_ ?_ <;> intro ak hm
    · exact zr hm V
    refine qU ?_;refine cB Q1c hm (Y3 (V.bE (Z2 0 4) (Z2 4 10)) Z3 hL1) ?_;rintro W _ _ _ _ ⟨rfl,ah,_⟩ hm;refine pu ?_;exact fkC (d:=39) (c:=((!W)&&(p2.n == 1))) 4 [(5,pt D 0),(6,pt E 0),(8,pt I 0)] rfl (fun hk=>zw (!W) hk) fun J=>zr hm ah
  refine pn ?_;refine cnd (b:=false) rfl (fun h=>nomatch h) (fun _=>qU ?_);refine cB Q1c hm (Y3 (K.bE (Z2 0 4) (Z2 4 10)) Z3 hL1) ?_;rintro y7 _ _ _ _ ⟨rfl,ab,_⟩ hm;refine pu ?_;refine fkC (d:=27) (c:=(y7&&(p2.n == p3))) 5 [(0,pt Z9 Z8),(3,iv p3),(5,pt D 0),(6,pt E 0),(8,pt I 0)] rfl (fun hk=>zw y7 hk) fun J => ?_;refine cd hm ?_ ?_ <;> intro am hm
  · exact zr hm ab
  refine qU ?_;refine cB Q1c hm (Y3 (ab.bE (Z2 0 4) (Z2 4 10)) Z3 hL1) ?_;rintro y8 _ _ _ _ ⟨rfl,ai,_⟩ hm;refine pu ?_;exact fkC (d:=39) (c:=((!y8)&&(p2.n == 1))) 4 [(5,pt D 0),(6,pt E 0),(8,pt I 0)] rfl (fun hk=>zw (!y8) hk) fun J=>zr hm ai

instance : Ct 107 @V9:=⟨@V9,Z4v⟩
theorem Q1m {p0:Q0} {p1} (hS:Q28 a1 a2 a3 a4 a5 a6 b1 oo1 n1 c1 n2 c2 n3 c3 n4 c4 n5 c5 n6 c6 Z5 H1 T0 g w0 pv1 r1 r2 R p0) (Z3:Ln Z9 Z8 Z5) (hL1:Ln b1 oo1 H1) : ∀ r,G8 p0 p1=some r →
    Cl 199 #[pt Z9 Z8,iv p1] w0 (K2 T0 w0 fun T w v=>v=iv r∧Q22 a1 a2 a3 a4 a5 a6 b1 oo1 n1 c1 n2 c2 n3 c3 n4 c4 n5 c5 n6 c6 Z5 H1 T g w pv1 r1 r2 R p0):=by
  intro r hm;refine enter func199 rfl ntmps199 rfl fun J => ?_;unfold G8 at hm;exact zr hm hS

instance : Ct 199 @Q1m:=⟨@Q1m,cf199⟩
theorem A7 {p0:Q0} {p1:Y7} {p2:Y1} {p3} (hS:Q28 a1 a2 a3 a4 a5 a6 b1 oo1 n1 c1 n2 c2 n3 c3 n4 c4 n5 c5 n6 c6 Z5 H1 T0 g w0 pv1 r1 r2 R p0) (Z3:Ln Z9 Z8 Z5) (hL1:Ln b1 oo1 H1) (h1:Q10 a7 c7 T0 w0 p1.Kids) (h2:Q80 a8 c8 T0 w0 p2) : ∀ r,I1 p0 p1 p2 p3=some r →
    Cl 189 #[pt Z9 Z8,Q41 a7 c7 p1,Q91 a8 c8 p2,iv p3] w0 (exR r (fun r=>K2 T0 w0 (Q75 a1 a2 a3 a4 a5 a6 b1 oo1 n1 c1 n2 c2 n3 c3 n4 c4 n5 c5 n6 c6 Z5 H1 g pv1 r1 r2 R r p0 r.Kids)) (fun r=>C7 T0 w0 (Q61 a1 a2 a3 a4 a5 a6 b1 oo1 n1 c1 n2 c2 n3 c3 n4 c4 n5 c5 n6 c6 Z5 H1 g pv1 r1 r2 R r.pos r.e p0))):=by
  intro r hm;refine enter func189 rfl ntmps189 rfl fun J => ?_;unfold I1 at hm;refine sq2 (bX (F5 p1 a7 c7) hS ?_);intro _ _ _ I;refine bX (R8 p2 a8 c8) I ?_;intro _ _ _ K;refine aL zv3 K ?_;intro _ _ _ O;refine kA ?_;refine cP Z4v hm (V9 (O.bE [0,3] (Z2 4 10)) Z3 hL1 (h1.mono ch) (h2.mono ch)) ?_ ?_
  · rintro _ _ _ _ _ ⟨rfl,U,_⟩ hm;exact pe hm (U.sE (Z2 1 11))
  rintro D _ _ _ _ ⟨V,c9,rfl,W,h3,_⟩ hm;refine aL zv3 W ?_;intro _ _ _ ab;refine sT 0 ab ?_;intro _ _ E;refine pn ?_;refine sq2 (sq2 (cd hm ?_ ?_)) <;> intro ai hm
  · refine sq2 (bS (r:=X6) (l:=([D]:List Y5)) (css := [(V8 D V c9)]) E ⟨(V7 (x:=D) (h3.mono ch):X6.rp _ _ _ _),qZt⟩ ?_);intro _ ac n7 c10 _ ae;refine pv (G3 (by kernel_rfl) rfl (u := .agg #[iv 17,iv 0,.int .u32 0,iv 0,.bool false,iv 0,.bool false,.bool false,.slice ac n7 c10])) (sT 2 ae ?_);intro _ _ af;refine pn ?_;obtain⟨_,_,ag,_,rfl⟩:=af.sl 0;exact re hm (ag.sE (Z2 3 11))
  refine kE ?_;refine sT 1 E ?_;intro _ _ ah;exact re hm (ah.sE (Z2 2 11))

instance : Ct 189 @A7:=⟨@A7,X1n⟩
theorem Q3v {p0:Q0} {p1:Pos} {p2:Y1} (hS:Q28 a1 a2 a3 a4 a5 a6 b1 oo1 n1 c1 n2 c2 n3 c3 n4 c4 n5 c5 n6 c6 Z5 H1 T0 g w0 pv1 r1 r2 R p0) (Z3:Ln Z9 Z8 Z5) (hL1:Ln b1 oo1 H1) (h1:Q80 a7 c7 T0 w0 p2) : ∀ r,O9 p0 p1 p2=some r →
    Cl 149 #[pt Z9 Z8,Q48 p1,Q91 a7 c7 p2] w0 (exR r (fun r=>K2 T0 w0 fun T w v => ∃ a15 c15 a16 n11 c16,v = .agg (R8 r.1 a15 c15).toArray∧Sep g T w (R++X3 r.2 Z5 H1 b1 oo1 a16 n11 c16 a2 n2 c2 a3 n3 c3 a4 n4 c4 r1 r2 a5 n5 c5 a6 n6 c6 pv1)∧Q80 a15 c15 T w r.1∧True) (fun r=>C7 T0 w0 (Q49 a2 a3 a4 a5 a6 b1 oo1 n2 c2 n3 c3 n4 c4 n5 c5 n6 c6 Z5 H1 g pv1 r1 r2 R r.1.pos r.1.e r.2))):=by
  intro r hm;refine enter func149 rfl ntmps149 rfl fun J => ?_;unfold O9 at hm;refine sq2 (bX [iv p1.Line,iv p1.Col] hS ?_);intro _ b2 _ aM;refine bX (R8 p2 a7 c7) aM ?_;intro _ b3 _ aN;refine aL zv1 aN ?_;intro w3 E _ au;refine pn ?_;refine sq2 (sq2 (cd hm ?_ ?_)) <;> intro bK hm
  · exact zr hm au
  refine pn ?_;refine N5 hm (fun av a w5 => ∃(T1:_) (O:_) (I:Q8l) (a8:_) (c8:_),JR (nf 78) g T0 w3 a w5 T1 (av I=some r) [(0,pt Z9 Z8),(4,pt b2 0),(5,pt b3 0),(6,pt E 0),(7,pt O 0)] ([U6 E zv1,Q46 a7 b3 c7 p2,U6 b2 [iv p1.Line,iv p1.Col],Y6 R]++(X3 p0 Z5 H1 b1 oo1 a1 n1 c1 a2 n2 c2 a3 n3 c3 a4 n4 c4 r1 r2 a5 n5 c5 a6 n6 c6 pv1 ++ [U6 O (Y7g I a8 c8)]))∧Q63 a8 c8 T1 w5 I.Fields) (fun av hm => ?_) ?_
  · refine rtS [0,0,0,1,0,1,2,0,0,0,2,2,0] [0,1,2,3,4,5,6,7,8,9,10,11,12] au fun w6 bM aw => ?_;obtain⟨_,ax,hm⟩:=Y0 hm;refine tF [6,10] ?_;refine⟨?_,?_,qZt⟩
    · refine brW [7,8,9,10,11,12] [0,0] ?_;refine oS Y8r (L4 (aw.bE (Z2 0 5++Z2 7 7) [5,6]) hL1 _ ax) ?_;rintro _ T2 w7 aS ⟨a9,c9,rfl,ah,h3,_⟩;refine t1W [10] [11,12] [] ?_;refine oaL zv9 ah ?_;intro w8 b6 aX ai;refine t1W [11] [12] [] ?_;refine osT 0 ai ?_;intro w9 aZ aj;refine pu ?_;exact je hm (aj.sE (Z2 1 5 ++ [13,14]++Z2 6 7 ++ [0]))
    refine brW [6,7,8,9,11,12] [] ?_;refine oaL zv9 aw ?_;intro w7 b6 aS ah;refine t1W [6] [7,8,9,11,12] [0,0] ?_;refine oS Y8r (L4 (ah.bE (Z2 0 6++Z2 8 7) [6,7]) hL1 _ ax) ?_;rintro _ T2 w8 aX ⟨a9,c9,rfl,ai,h3,_⟩;refine t1W [11] [12] [] ?_;refine osT 0 ai ?_;intro w9 aZ aj;refine pu ?_;exact je hm (aj.sE (Z2 1 5 ++ [13,14]++Z2 6 7 ++ [0]))
  rintro _ w5 ⟨T1,O,I,a8,c8,⟨J,hm,rfl,ba,_⟩,h2⟩;refine sq2 (rsS [0,0,0,1,0,1,2,0] [0,1,2,3,4,5,6,7] ba fun bN bO be => ?_);obtain⟨U,bf,hm⟩:=Y0 hm;refine sS [] Z1i (V4 (be.bE (Z2 0 5++Z2 7 8) [5,6]) hL1 _ bf) ?_;rintro _ T3 _ _ ⟨rfl,ay,_⟩;refine pn ?_;refine sq2 (blk (sq2 (cd hm ?_ ?_))) <;> intro bP hm
  · refine sq2 (aL zv3 ay ?_);intro _ b7 _ bh;refine sT 0 bh ?_;intro bi _ bj;refine pn ?_;refine N5 hm (fun aA a ak => ∃(T4:_) (D:Y5) (K:_) (c10:_),JR (nf 78) g T3 bi a ak T4 (aA D=some r) [(0,pt Z9 Z8),(4,pt b2 0),(6,pt E 0),(7,pt O 0),(10,pt b7 0)] [Q77 K b7 c10 D,U6 E zv1,U6 b2 [iv p1.Line,iv p1.Col],Y6 R,Z5 [pt b1 oo1,.slice a2 n2 c2,.slice a3 n3 c3,.slice a4 n4 c4,iv p0.u.Main,.map r1,.map r2,.slice a5 n5 c5,.slice a6 n6 c6,pv1],J2 Q3t 94 (.slice a2 n2 c2) p0.u.Globals,J2 (rSl (J6 .u8)) 99 (.slice a3 n3 c3) p0.u.Data,J2 Q8v 103 (.slice a4 n4 c4) p0.u.Codes,Q101 r1 p0.globals,Q101 r2 p0.codes,J2 (J6 .i64) 3 (.slice a5 n5 c5) p0.gtypes,J2 Q4v 186 (.slice a6 n6 c6) p0.signs,U6 O (Y7g I a8 c8),H1 [.slice a1 n1 c1],Q12 a1 n1 c1 p0.t.list]∧Q11 K c10 T4 ak D.Kids) (fun aA hm => ?_) ?_
    · have bQ:HL 1 X6 ([p2.term]:List Y5) [(V8 p2.term a7 c7)]:=⟨qZt⟩;have dd:KD [(6,[3,5])]:=⟨qZt⟩;exact zr hm bj
    rintro _ ak ⟨T4,D,K,c10,⟨J,hm,rfl,bk,_⟩,_⟩;refine sq2 (Z2k [0,1,0,1,2,1,0,2] [0,1,2,3,5,4,6,7] bk (U4 (L3 (U4 (N8)))) fun bR bT aC=>pu ?_);obtain⟨y3,aD,hm⟩:=Y0 hm
    rcases y3 with e1 | y3
    · have hm:=J1 hm;refine s2 [(5,.agg (V8 D K c10).toArray)] rfl qZt rfl (by kernel_rfl) (Z1p cf172 rfl (Q2x (p0:=p0) (p1:=p1) (p2:=I.Elem) (aC.bE [1,3,0,12,2] ([4,13,14]++Z2 5 7)) Z3 hL1 _ aD) rfl fun v4 T7 bY bZ bl => ?_);obtain⟨_,_,c13,rfl,bm,_⟩:=bl;exact pe hm (bm.sE ([1]++Z2 5 10))
    have hm:=N4 hm;refine sS [(5,.agg (V8 D K c10).toArray)] cf172 (Q2x (aC.bE [1,3,0,12,2] ([4,13,14]++Z2 5 7)) Z3 hL1 _ aD) ?_;rintro _ _ _ _ ⟨_,_,c12,rfl,bn,_⟩;refine pu ?_;refine s0 rfl qZt (fun _=>G3 (by kernel_rfl) rfl (u := .agg #[iv y3.1,iv D.Kind,iv D.Fn,.int .u32 D.Num,iv D.Var,.bool D.Global,iv D.Size,.bool D.Post,.bool D.Ptr,sv K D.Kids c10,.bool false])) rfl (s2W [0] ?_);refine osT 0 bn ?_;intro _ _ bo;exact re hm (bo.sE ([1]++Z2 5 10))
  refine sq2 (rsS [0,0,0,1,0,1,2,0,0] [0,1,2,3,4,5,6,7,8] ay fun b0 b8 bp => ?_);obtain⟨_,bq,hm⟩:=Y0 hm;refine sS [] cf74 (O1 (bp.bE (Z2 0 12) [13,14]) hL1 _ bq) ?_;rintro _ T8 bu _ ⟨rfl,aE,_⟩;refine cd hm ?_ ?_ <;> intro b9 hm
  · have dd:KD [(6,[3,5])]:=⟨qZt⟩;exact zr hm aE
  refine kD ?_;refine N5 hm (fun aF a aG => ∃ aI V,JR (nf 78) g T8 bu a aG aI (aF V=some r) [(0,pt Z9 Z8),(5,pt b3 0),(6,pt E 0),(9,iv U),(11,iv V)] [U6 E zv1,Q46 a7 b3 c7 p2,Y6 R,Z5 [pt b1 oo1,.slice a2 n2 c2,.slice a3 n3 c3,.slice a4 n4 c4,iv p0.u.Main,.map r1,.map r2,.slice a5 n5 c5,.slice a6 n6 c6,pv1],J2 Q3t 94 (.slice a2 n2 c2) p0.u.Globals,J2 (rSl (J6 .u8)) 99 (.slice a3 n3 c3) p0.u.Data,J2 Q8v 103 (.slice a4 n4 c4) p0.u.Codes,Q101 r1 p0.globals,Q101 r2 p0.codes,J2 (J6 .i64) 3 (.slice a5 n5 c5) p0.gtypes,J2 Q4v 186 (.slice a6 n6 c6) p0.signs,H1 [.slice a1 n1 c1],Q12 a1 n1 c1 p0.t.list]) (fun aF hm => ?_) ?_
  · have dd:KD [(6,[3,5])]:=⟨qZt⟩;exact zr hm aE
  rintro _ aG ⟨aI,V,J,hm,rfl,bv,_⟩;refine sq2 (rtS [0,0,0,0,2,0,1,2,0,0,2] [0,1,2,3,5,6,4,7,8,9,10] bv fun cc ce aJ => ?_);obtain⟨y6,aK,hm⟩:=Y0 hm;refine tF [4,7] ?_;refine⟨?_,?_,qZt⟩
  · refine brW [7,8,9,10] [] ?_;refine oS Q1c (Y3 (aJ.bE [0,2,1] ([3,11,12]++Z2 4 7)) Z3 hL1 _ aK) ?_;rintro _ bw bz bA ⟨rfl,ao,_⟩;refine t1W [7] [8,9,10] [0] ?_;refine obS (r:=X6) (l:=([p2.term]:List Y5)) (css := [(V8 p2.term a7 c7)]) ao ⟨(V7 (x:=p2.term) (h1.mono ch):X6.rp _ _ _ _),qZt⟩ ?_;intro bB W aa c14 bC ap;refine pu ?_;refine t0 rfl qZt (fun _=>G3 (by kernel_rfl) rfl (u := .agg #[iv 3,iv 0,.int .u32 0,iv 0,.bool false,iv U,.bool false,.bool y6,.slice W aa c14])) rfl (t0 rfl qZt (fun _=>G3 (by kernel_rfl) rfl (u := .agg #[iv V,iv 3,iv 0,.int .u32 0,iv 0,.bool false,iv U,.bool false,.bool y6,.slice W aa c14,.bool false])) rfl (t1W [10] [] [] ?_));refine osT 1 ap ?_;intro bD bF aq;refine pn ?_;obtain⟨bG,bI,ar,h6,rfl⟩:=aq.sl 0;exact re hm (ar.sE ([2]++Z2 4 10))
  refine brW [4,8,9,10] [0] ?_;refine obS (r:=X6) (l:=([p2.term]:List Y5)) (css := [(V8 p2.term a7 c7)]) aJ ⟨(V7 (x:=p2.term) (h1.mono ch):X6.rp _ _ _ _),qZt⟩ ?_;intro bz W aa c14 bA ao;refine t1W [4] [8,9,10] [] ?_;refine oS Q1c (Y3 (ao.bE [0,1,3] ([4,12,13]++Z2 5 7)) Z3 hL1 _ aK) ?_;rintro _ bw bB bC ⟨rfl,ap,_⟩;refine pu ?_;refine t0 rfl qZt (fun _=>G3 (by kernel_rfl) rfl (u := .agg #[iv 3,iv 0,.int .u32 0,iv 0,.bool false,iv U,.bool false,.bool y6,.slice W aa c14])) rfl (t0 rfl qZt (fun _=>G3 (by kernel_rfl) rfl (u := .agg #[iv V,iv 3,iv 0,.int .u32 0,iv 0,.bool false,iv U,.bool false,.bool y6,.slice W aa c14,.bool false])) rfl (t1W [10] [] [] ?_));refine osT 1 ap ?_;intro bD bF aq;refine pn ?_;obtain⟨bG,bI,ar,h6,rfl⟩:=aq.sl 0;exact re hm (ar.sE (Z2 2 11))

instance : Ct 149 @Q3v:=⟨@Q3v,cf149⟩
theorem Z4o {p0:Z7} {p1} {p2:List UInt8} (hS:Q36 a1 n1 c1 Z5 T0 g w0 R p0.list) (Z3:Ln Z9 Z8 Z5) : ∀ r,Q4h p0 p1 p2=some r →
    Cl 200 #[pt Z9 Z8,iv p1,Q23 p2.toArray] w0 (K2 T0 w0 fun T w v=>v = .tuple #[Q103 r.1,iv r.2]∧Q30 a1 n1 c1 Z5 T g w R p0.list):=by
  intro r hm;refine enter func200 rfl ntmps200 rfl fun J => ?_;unfold Q4h at hm;refine sq2 (aL zv15 hS ?_);intro _ E _ ab;refine kE ?_;refine blk (qU ?_);refine pv (Y4y rfl rfl rfl underlying78) (pn ?_);refine cnd (b:=false) rfl (fun h=>nomatch h) (fun _=>qU ?_);refine cB cf113 hm (Q9a (ab.bE [0,1] [2,3]) Z3) ?_;rintro _ _ T1 w2 _ ⟨rfl,D,_⟩ hm;refine cd hm ?_ ?_ <;> intro ak hm
  · exact zr hm D
  refine sq2 ?_;obtain⟨u1,K,hm⟩:=Y0 hm;obtain⟨cs1,ae,_⟩:=(D.own (i:=3) ⟨rfl,rfl⟩).v.ixcS K rfl;obtain⟨O,c2,rfl,h1⟩:=M9 ae;refine cd hm ?_ ?_ <;> intro am hm
  · exact zr hm D
  refine kE ?_;refine sq2 ?_;obtain⟨u2,ag,hm⟩:=Y0 hm;obtain rfl:u1=u2:=oI (K.symm.trans ag);refine pu ?_;refine nil (K1 [(2,(qZs p2)),(6,pt E 0),(40,sv O u1.Type_.Fields c2),(41,iv (List.length u1.Type_.Fields:Int)),(42,iv 0)] ⟨rfl,rfl,rfl,rfl,rfl,qZt⟩ fun J=>lpJ hm (fun U V m a W => ∃ T2 I,JR (nf 53) g T1 w2 a W T2 (X5 U m I=some V) [(2,(qZs p2)),(6,pt E 0),(40,sv O u1.Type_.Fields c2),(41,iv (List.length u1.Type_.Fields:Int)),(42,iv I)] [U6 E zv15,Y6 R,Q92 a1 n1 c1 Z5,Q12 a1 n1 c1 p0.list]) (fun _ _ h=>je h (D.sE (Z2 0 4))) ?_);rintro U ah V _ _ _ W ⟨T2,I,J,ai,rfl,aj,_⟩;obtain⟨m1,_,rfl,hm,_⟩:=lrE ai ah;exact zr hm aj
instance : Ct 200 @Z4o:=⟨@Z4o,cf200⟩
end Go.Proofs.YtbfpdnogfkbiaaaGreat
