/- That Go functions compute their models. Printed by gen2.py. -/
import Derived.Test.YtfffghclkmbopaaGreatKWb
set_option linter.unusedVariables false
namespace Go.Proofs.YtfffghclkmbopaaGreat
open _root_.Go.Proofs.Tryz
set_option maxRecDepth 100000
set_option maxHeartbeats 8000000
attribute [local irreducible] wpList wpQuiet Code.wp
variable {g:World} {T0:Nat→Prop} {w0:World} {R:List Y8}
variable {b1 b2 Y2 Q1c Y0d Y0c Y0z c1 c2 c3 c4 c5 c6 c7 c8 c9 c10 c11 c12 c13 n1 n2 n3 n4 n5 n6 n7 Y1 Q0x Y0a Z9z Y0u oo1 oo2:Nat} {H1 H2 Z5 R5 Z7c Z7b Y0e:List Value→Y8} {a1 a2 a3 a4 a5 a6 a7 a8 a9 a10 a11 a12 a13:OA} {r1 r2:Option Nat} {pv1:Value}
attribute [local irreducible] C7 Q0q execOp Program.underlying sizeOf isAgg zeroValue

theorem S5 {p0:Z6} {p1} (hS:Q25 a1 n1 c1 Z5 T0 g w0 R p0) (Z2:Ln Y2 Y1 Z5) : ∀ r,P6 p0 p1=some r →
    Calls Tryz.prog 135 #[pt Y2 Y1,iv p1] w0 (U7 T0 w0 fun T w v => ∃ a4 c4,v = .tuple #[.agg (Y5l r.1 a4 c4).toArray,iv r.2]∧Sep g T w (R ++ [Z5 [.slice a1 n1 c1],Q8 a1 n1 c1 p0])∧Q45 a4 c4 T w r.1.Fields∧True):=by
  intro r hm;refine enter func135 rfl ntmps135 rfl fun J => ?_;unfold P6 at hm;exact zr hm hS

instance : Ctr Tryz.prog 135 (type_of% @S5):=⟨@S5,Y6v⟩
theorem F7 {p0:Q0} {p1} (hS:Q21 a1 a2 a3 a4 a5 a6 b1 oo1 n1 c1 n2 c2 n3 c3 n4 c4 n5 c5 n6 c6 Z5 H1 T0 g w0 pv1 r1 r2 R p0) (Z2:Ln Y2 Y1 Z5) (hL1:Ln b1 oo1 H1) : ∀ r,O8 p0 p1=some r →
    Calls Tryz.prog 106 #[pt Y2 Y1,iv p1] w0 (U7 T0 w0 fun T w v=>v=iv r∧Q15 a1 a2 a3 a4 a5 a6 b1 oo1 n1 c1 n2 c2 n3 c3 n4 c4 n5 c5 n6 c6 Z5 H1 T g w pv1 r1 r2 R p0):=by
  intro r hm;refine enter func106 rfl ntmps106 rfl fun J => ?_;unfold O8 at hm;exact zr hm hS

instance : Ctr Tryz.prog 106 (type_of% @F7):=⟨@F7,Y0n⟩
theorem Q2c {p0:Q0} {p1:F2} {p2} (hS:Q21 a1 a2 a3 a4 a5 a6 b1 oo1 n1 c1 n2 c2 n3 c3 n4 c4 n5 c5 n6 c6 Z5 H1 T0 g w0 pv1 r1 r2 R p0) (Z2:Ln Y2 Y1 Z5) (hL1:Ln b1 oo1 H1) (h1:Q30 a7 c7 T0 w0 p1) (h2:Q7 a8 c8 T0 w0 p1.Init) : ∀ r,C5 p0 p1 p2=some r →
    Calls Tryz.prog 103 #[pt Y2 Y1,Q75 a7 a8 c7 c8 p1,iv p2] w0 (exR r (fun r=>U7 T0 w0 fun T w v => ∃ a10 c10,v=sv a10 r c10∧Sep g T w (R++X0 p0 Z5 H1 b1 oo1 a1 n1 c1 a2 n2 c2 a3 n3 c3 a4 n4 c4 r1 r2 a5 n5 c5 a6 n6 c6 pv1)∧SlR K5 T w (sv a10 r c10) r∧True) (fun r=>A5 T0 w0 (Q43 a1 a2 a3 a4 a5 a6 b1 oo1 n1 c1 n2 c2 n3 c3 n4 c4 n5 c5 n6 c6 Z5 H1 g pv1 r1 r2 R r.pos r.e p0))):=by
  intro r hm;refine enter func103 rfl ntmps103 rfl fun J => ?_;unfold C5 at hm;refine sq2 (bX (Z5y p1 a7 c7 a8 c8) hS ?_);intro _ K _ O;refine pn ?_;refine sq2 (sq2 (cd hm ?_ ?_)) <;> intro ae hm
  · exact zr hm O
  refine pn ?_;refine sq2 (pu ?_);refine cB Y6v hm (S5 (O.bun ([0,1,2]++Z1 5 7) [3,4] rfl) hL1) ?_;rintro E _ _ _ _ ⟨_,c9,rfl,V,h3,_⟩ hm;refine aL zv7 V ?_;intro _ W _ aa;refine sT 0 aa ?_;intro _ _ U;refine pn ?_;refine sq2 (pn ?_);refine sq2 (blk (sq2 (pu ?_)));refine pv (r_bn rfl rfl underlying4) (pu ?_)
  rcases bc hm with ⟨ab,hm⟩ | ⟨ab,hm⟩
  · exact zr hm U
  refine pu ?_;refine cB Y0n hm (F7 (U.bun [0,1,2] ([3,11,12]++Z1 4 7) rfl) Z2 hL1) ?_;rintro _ _ _ _ _ ⟨rfl,ac,_⟩ hm;refine pu ?_;refine cB cf102 hm (Q0l (ac.bun [0,1,2] (Z1 3 10) rfl) Z2 hL1) ?_;rintro y3 _ _ _ _ ⟨rfl,I,_⟩ hm;refine pu ?_;refine nil (J3 [(4,pt K 0),(7,pt W 0),(9,.bool (E.1.Kind == 4)),(26,.bool (y3 == 0))] ⟨rfl,rfl,rfl,rfl,qZt⟩ fun J => ?_);refine cd hm ?_ ?_ <;> intro af hm
  · exact zr hm I
  refine sq2 (pu ?_);refine fkC (d:=51) (c:=((E.1.Kind == 4)&&(decide (E.1.Len < (List.length p1.Init:Int))))) 7 [(4,pt K 0)] rfl (fun hk => ?_) fun J => ?_
  · rcases Bool.eq_false_or_eq_true (E.1.Kind == 4) with D | D
    · exact  gT (d0:=44) rfl rfl D (pv (Q0h rfl underlying86 rfl sizeOf84 rfl) (gT (d0:=44) rfl rfl D (pv (Q0p rfl isAgg84 (I.cell0 (i:=1) ⟨rfl,rfl⟩ (j:=7) rfl)) (gT (d0:=44) rfl rfl D (pv (Y4n rfl underlying84) (gT (d0:=44) rfl rfl D (pv (Q0h rfl underlying120 rfl sizeOf3 rfl) (gT (d0:=44) rfl rfl D (pv (Q0p rfl isAgg3 (I.cell0 (i:=0) ⟨rfl,rfl⟩ (j:=2) rfl)) (gT (d0:=44) rfl rfl D (pv (Q6y rfl rfl rfl) (pv (O5 rfl D rfl) (wlR (fun J=>hk J _ (by rw [D]; rfl)) ⟨rfl,rfl,qZt⟩)))))))))))))
    exact  gF6 (d0:=44) rfl rfl (by rw [D]; rfl) (pv (O6 rfl D rfl) (wlR (fun J=>hk J _ (by rw [D]; rfl)) ⟨rfl,rfl,qZt⟩))
  exact zr hm I

instance : Ctr Tryz.prog 103 (type_of% @Q2c):=⟨@Q2c,cf103⟩
theorem Q1z {p0:G5} {p1:List UInt8} (hS:Sep g T0 w0 ([Y5 R]++Z4d p0 Z5 a1 n1 c1 a2 n2 c2 a3 n3 c3)) (Z2:Ln Y2 Y1 Z5) : ∀ r,Q0n p0 p1=some r →
    Calls Tryz.prog 176 #[pt Y2 Y1,Q16 p1.toArray] w0 (U7 T0 w0 fun T w v=>v = .tuple #[iv r.1,.bool r.2]∧Sep g T w (R++Z4d p0 Z5 a1 n1 c1 a2 n2 c2 a3 n3 c3)∧True):=by
  intro r hm;refine enter func176 rfl ntmps176 rfl fun J => ?_;unfold Q0n at hm;refine sq2 (pn ?_);refine sq2 (sq2 (pn ?_));refine lpJ hm (fun W o1 m a D => ∃ E I,JR (nf 33) g T0 w0 a D E (loopM W m I=some o1) [(0,pt Y2 Y1),(1,(qZs p1)),(6,iv I)] ([Y5 R]++Z4d p0 Z5 a1 n1 c1 a2 n2 c2 a3 n3 c3)) (fun _ _ h=>je h (hS.sel (Z1 0 5) rfl)) ?_;rintro W ab o1 _ _ _ D ⟨E,I,J,ac,rfl,V,_⟩;obtain⟨m1,_,rfl,hm,ad⟩:=lrE ac ab;refine sq2 (sq2 (cd hm ?_ ?_)) <;> intro ap hm
  · refine pn ?_;refine sq2 (blk (sq2 (pu ?_)));obtain⟨u1,K,hm⟩:=bindS hm;obtain⟨_,of1,k1,cp1,hv1,_,_,ae⟩:=V.nhd (q:=4) ⟨rfl,rfl⟩ K rfl;obtain⟨css1,cs1,af⟩:=V.nfocus (q:=4) ⟨rfl,rfl⟩ K;obtain⟨O,ag⟩:=af.exE;obtain⟨hcs1,ah⟩:=ag.pE;subst hcs1;have U:=ah.unb;refine pu ?_;refine pv (Q0p rfl isAgg67 (U.cellB (i:=6) ⟨rfl,rfl⟩ (X0s (i:=I) hv1 ae) (j:=0) rfl)) (pu ?_);refine pv (Z6g (kk:=p1) (u:=0) rfl rfl (U.getA (i:=0) ⟨rfl,rfl⟩) Q9b underlying67 underlying9 zeroValue3 rfl) (pn ?_);refine sq2 (cd hm ?_ ?_) <;> intro aq hm
    · refine sq2 (pn ?_);have ai:=U.bun [0] (Z1 1 6) rfl;have aj:Sep g E D (Z7h.A u1 [.map O]::_):=Sep.exI (O) (Sep.pI rfl ai);have ak:=aj.nunfocus0 (q:=4) ⟨rfl,rfl⟩ K;exact zr hm ak
    refine pn ?_;have am:=U.bun [0] (Z1 1 6) rfl;have an:Sep g E D (Z7h.A u1 [.map O]::_):=Sep.exI (O) (Sep.pI rfl am);have ao:=an.nunfocus0 (q:=4) ⟨rfl,rfl⟩ K;exact lg hm ad (ao.sel (Z1 0 5) rfl)
  exact zr hm V

instance : Ctr Tryz.prog 176 (type_of% @Q1z):=⟨@Q1z,cf176⟩
theorem Z0v {p0:Q0} {p1:Z8} (hS:Q24 a1 a2 a3 a4 a5 a6 b1 oo1 n1 c1 n2 c2 n3 c3 n4 c4 n5 c5 n6 c6 Z5 H1 T0 g w0 pv1 r1 r2 R p0) (Z2:Ln Y2 Y1 Z5) (hL1:Ln b1 oo1 H1) (h1:Q7 a7 c7 T0 w0 p1.Kids) : ∀ r,O9 p0 p1=some r →
    Calls Tryz.prog 157 #[pt Y2 Y1,Q26 a7 c7 p1] w0 (exR r (fun r=>U7 T0 w0 fun T w v => ∃ a11 c11,v = .agg (Q0f r.1 a11 c11).toArray∧Sep g T w (R++(Q2 a1 a2 a3 a4 a5 a6 b1 oo1 n1 c1 n2 c2 n3 c3 n4 c4 n5 c5 n6 c6 Z5 H1 pv1 r1 r2 r.2))∧Q56 a11 c11 T w r.1∧True) (fun r=>A5 T0 w0 fun T w v=>v = .iface 76 (Q18 r.1.pos r.1.e)∧Sep g T w (R++(Q2 a1 a2 a3 a4 a5 a6 b1 oo1 n1 c1 n2 c2 n3 c3 n4 c4 n5 c5 n6 c6 Z5 H1 pv1 r1 r2 r.2))∧True)):=by
  intro r hm;refine enter func157 rfl ntmps157 rfl fun J => ?_;unfold O9 at hm;refine sq2 (bX (F8 p1 a7 c7) hS ?_);intro _ b2 _ ak;refine aL zv1 ak ?_;intro w2 W _ aa;refine pn ?_;refine O7 hm (fun ad a w3 => ∃ T1,JR (nf 63) g T0 w2 a w3 T1 (ad ()=some r) [(0,pt Y2 Y1),(3,pt b2 0),(4,pt W 0)] ((Q77 a7 W b2 c7 R p1)++(Q2 a1 a2 a3 a4 a5 a6 b1 oo1 n1 c1 n2 c2 n3 c3 n4 c4 n5 c5 n6 c6 Z5 H1 pv1 r1 r2 p0))) (fun ad hm => ?_) ?_
  · refine sq2 ?_;obtain⟨u1,an,hm⟩:=bindS hm;refine pu ?_;refine pv (r_opn rfl rfl (aa.optV (q:=13) ⟨rfl,rfl⟩ an) underlying70) (cd hm ?_ ?_) <;> intro aK hm
    · refine sq2 (rsS [0,0,0,1,0,1,2,0,0,0,0,0] [0,1,2,3,4,5,6,7,8,9,10,11] aa fun w4 aN ao => ?_);refine pu ?_;obtain⟨D,ab,hm⟩:=bindS hm;obtain⟨b4,cs1,aq,ar⟩:=ao.optE (q:=13) ⟨rfl,rfl⟩ ab;subst aq;obtain⟨⟨E,I,c8,K,O,c9,U,V,c10⟩,au⟩:=ar.exE;obtain⟨hcs1,av⟩:=au.pE;subst hcs1;have aw:=av.unb;obtain⟨y1,ax,hm⟩:=bindS hm;refine sS [] cf176 (Q1z (aw.bun (Z1 3 13) [16,0,1,2] rfl) (Q4u b4) _ ax) ?_;rintro _ T2 w5 _ ⟨rfl,ai,_⟩;refine pn ?_;refine sq2 (cd hm ?_ ?_) <;> intro aP hm
      · refine sq2 ?_;obtain⟨u3,_,hm⟩:=bindS hm;refine pu ?_;refine pv (F9 (by kernel_rfl) rfl (u := .agg #[iv 2,iv 0,.int .u32 0,iv y1.1,.bool false,iv 0,.bool false,.bool true,.slice none 0 0])) (pv (F9 (by kernel_rfl) rfl (u := .agg #[iv u3,iv 2,iv 0,.int .u32 0,iv y1.1,.bool false,iv 0,.bool false,.bool true,.slice none 0 0,.bool true])) (sT 0 ai ?_));intro w6 _ aB;refine nil (J3 [(4,pt W 0)] ⟨rfl,qZt⟩ fun J => ?_);have aC:=aB.bun [14,15,16] (Z1 0 14) rfl;have aD:Sep g T2 w6 (V6.A D [iv D.ret,.slice E I c8,.slice K O c9,.slice U V c10,iv D.loops,iv D.breaks]::_):=Sep.exI (E,I,c8,K,O,c9,U,V,c10) (Sep.pI rfl aC);have aE:=aD.optI0 (q:=13) ⟨rfl,rfl⟩ ab;exact re hm (aE.sel (Z1 2 12) rfl)
      have aF:=ai.bun [14,15,16] (Z1 0 14) rfl;have aG:Sep g T2 w5 (V6.A D [iv D.ret,.slice E I c8,.slice K O c9,.slice U V c10,iv D.loops,iv D.breaks]::_):=Sep.exI (E,I,c8,K,O,c9,U,V,c10) (Sep.pI rfl aF);have aI:=aG.optI0 (q:=13) ⟨rfl,rfl⟩ ab;exact je hm (aI.sel (Z1 0 14) rfl)
    exact je hm (aa.sel (Z1 0 14) rfl)
  rintro _ w3 ⟨T1,J,hm,rfl,aj,_⟩;refine sq2 (rqS aj (pu ?_));refine qv (fun _ hq=>(hq.elim fun _ hi=>Z6g (kk:=p1.Name) (u:=0) rfl rfl ((aj.keep hi (fun _ h=>h)).getA (i:=9) ⟨rfl,rfl⟩) Q9b underlying67 underlying9 zeroValue3 rfl)) (pn ?_);intro _ _ _ aJ;exact zr hm aJ

instance : Ctr Tryz.prog 157 (type_of% @Z0v):=⟨@Z0v,cf157⟩
theorem L9 {p0:Q0} {p1:Pos} {p2} (hS:Q21 a1 a2 a3 a4 a5 a6 b1 oo1 n1 c1 n2 c2 n3 c3 n4 c4 n5 c5 n6 c6 Z5 H1 T0 g w0 pv1 r1 r2 R p0) (Z2:Ln Y2 Y1 Z5) (hL1:Ln b1 oo1 H1) : ∀ r,C3 p0 p1 p2=some r →
    Calls Tryz.prog 156 #[pt Y2 Y1,Q33 p1,iv p2] w0 (exR r (fun r=>U7 T0 w0 (Q78 a2 a3 a4 a5 a6 b1 oo1 n2 c2 n3 c3 n4 c4 n5 c5 n6 c6 Z5 H1 g pv1 r1 r2 R r.1 r.2)) (fun r=>A5 T0 w0 (Q34 a2 a3 a4 a5 a6 b1 oo1 n2 c2 n3 c3 n4 c4 n5 c5 n6 c6 Z5 H1 g pv1 r1 r2 R r.1.pos r.1.e r.2))):=by
  intro r hm;refine enter func156 rfl ntmps156 rfl fun J => ?_;unfold C3 at hm;exact zr hm hS

instance : Ctr Tryz.prog 156 (type_of% @L9):=⟨@L9,Y9r⟩
theorem Q0k {p0:Q0} {p1} (hS:Q21 a1 a2 a3 a4 a5 a6 b1 oo1 n1 c1 n2 c2 n3 c3 n4 c4 n5 c5 n6 c6 Z5 H1 T0 g w0 pv1 r1 r2 R p0) (Z2:Ln Y2 Y1 Z5) (hL1:Ln b1 oo1 H1) : ∀ r,M1 p0 p1=some r →
    Calls Tryz.prog 163 #[pt Y2 Y1,iv p1] w0 (U7 T0 w0 fun T w v=>v = .tuple #[iv r.1,.bool r.2]∧Q15 a1 a2 a3 a4 a5 a6 b1 oo1 n1 c1 n2 c2 n3 c3 n4 c4 n5 c5 n6 c6 Z5 H1 T g w pv1 r1 r2 R p0):=by
  intro r hm;refine enter func163 rfl ntmps163 rfl fun J => ?_;unfold M1 at hm;refine sq2 (pn ?_);refine sq2 (pu ?_);refine cB Y6v hm (S5 (hS.bun ([0,1]++Z1 4 7) [2,3] rfl) hL1) ?_;rintro D _ _ _ _ ⟨_,c7,rfl,I,h1,_⟩ hm;refine aL zv7 I ?_;intro _ _ _ K;refine sT 0 K ?_;intro _ _ O;refine pn ?_;refine sq2 (rsS [0,1,0,1,0,0,0,0,0,1,0,1,2,0,0,0,0] [0,1,2,3,4,5,6,7,8,9,10,11,12,13,14,15,16] O fun w4 ac E => ?_);refine pu ?_
  rcases bc hm with ⟨U,hm⟩ | ⟨U,hm⟩
  · obtain⟨V,W,hm⟩:=bindS hm;refine sS [(1,iv D.1.Elem)] Q8s (V3 (E.bun (Z1 1 9 ++ [0]) [10,11] rfl) hL1 _ W) ?_;rintro _ _ _ _ ⟨rfl,aa,_⟩;refine pu ?_;refine se (J3 [(4,iv D.1.Elem),(5,.bool (decide (0 < V)))] ⟨rfl,rfl,qZt⟩ fun J => ?_);exact re hm (aa.sel ([0,1,10,11]++Z1 2 7) rfl)
  have dd:KD [(12,[3,9,11])]:=⟨qZt⟩;exact zr hm E

instance : Ctr Tryz.prog 163 (type_of% @Q0k):=⟨@Q0k,cf163⟩
theorem Z9 {p0:Q0} {p1} (hS:Q21 a1 a2 a3 a4 a5 a6 b1 oo1 n1 c1 n2 c2 n3 c3 n4 c4 n5 c5 n6 c6 Z5 H1 T0 g w0 pv1 r1 r2 R p0) (Z2:Ln Y2 Y1 Z5) (hL1:Ln b1 oo1 H1) : ∀ r,Y7 p0 p1=some r →
    Calls Tryz.prog 136 #[pt Y2 Y1,iv p1] w0 (U7 T0 w0 fun T w v=>v = .bool r∧Q15 a1 a2 a3 a4 a5 a6 b1 oo1 n1 c1 n2 c2 n3 c3 n4 c4 n5 c5 n6 c6 Z5 H1 T g w pv1 r1 r2 R p0):=by
  intro r hm;refine enter func136 rfl ntmps136 rfl fun J => ?_;unfold Y7 at hm;exact zr hm hS

instance : Ctr Tryz.prog 136 (type_of% @Z9):=⟨@Z9,Q0e⟩
theorem Q8a {p0:List UInt8} (hS:Sep g T0 w0 [Y5 R])  : ∀ r,Q9s p0=some r →
    Calls Tryz.prog 178 #[Q16 p0.toArray] w0 (Q27 T0 w0 g R r):=by
  intro r hm;refine enter func178 rfl ntmps178 rfl fun J => ?_;unfold Q9s at hm;exact zr hm hS

instance : Ctr Tryz.prog 178 (type_of% @Q8a):=⟨@Q8a,cf178⟩
theorem Q3s {p0:Z8} (hS:Sep g T0 w0 [Y5 R]) (h1:Q7 a1 c1 T0 w0 p0.Kids) : ∀ r,Q2i p0=some r →
    Calls Tryz.prog 137 #[Q26 a1 c1 p0] w0 (Q17 T0 w0 g R r):=by
  intro r hm;refine enter func137 rfl ntmps137 rfl fun J => ?_;unfold Q2i at hm;refine sq2 (bX (F8 p0 a1 c1) hS ?_);intro _ _ _ E;refine pn ?_;refine sq2 (pu ?_);refine fkC (d:=10) (c:=((p0.Kind == 1)&&(p0.Num == 0))) 4 [] rfl (fun hk => ?_) fun J => ?_
  · rcases Bool.eq_false_or_eq_true (p0.Kind == 1) with D | D
    · exact  gT (d0:=6) rfl rfl D (pv (Q0h rfl underlying136 rfl sizeOf104 rfl) (gT (d0:=6) rfl rfl D (pv (Q0p rfl isAgg104 (E.cell0 (i:=0) ⟨rfl,rfl⟩ (j:=5) rfl)) (gT (d0:=6) rfl rfl D (pv (Q6y rfl rfl rfl) (pv (O5 rfl D rfl) (wlR (fun J=>hk J _ (by rw [D]; rfl)) ⟨rfl,qZt⟩)))))))
    exact  gF3 (d0:=6) rfl rfl (by rw [D]; rfl) (pv (O6 rfl D rfl) (wlR (fun J=>hk J _ (by rw [D]; rfl)) ⟨rfl,qZt⟩))
  exact re hm (E.sel [1] rfl)

instance : Ctr Tryz.prog 137 (type_of% @Q3s):=⟨@Q3s,Y6u⟩
theorem Q1y  (hS:Sep g T0 w0 [Y5 R])  : ∀ r,Q1h=some r →
    Calls Tryz.prog 138 #[] w0 (U7 T0 w0 fun T w v => ∃ a1 c1,v = .agg (V5 r a1 c1).toArray∧Sep g T w (R ++ [])∧Q10 a1 c1 T w r.Kids∧True):=by
  intro r hm;refine enter func138 rfl ntmps138 rfl fun J => ?_;unfold Q1h at hm;exact zr hm hS

instance : Ctr Tryz.prog 138 (type_of% @Q1y):=⟨@Q1y,Y9s⟩
theorem Z0b {p0:Q0} {p1:Z8} {p2:Z7} {p3:Z7} (hS:Q21 a1 a2 a3 a4 a5 a6 b1 oo1 n1 c1 n2 c2 n3 c3 n4 c4 n5 c5 n6 c6 Z5 H1 T0 g w0 pv1 r1 r2 R p0) (Z2:Ln Y2 Y1 Z5) (hL1:Ln b1 oo1 H1) (h1:Q7 a7 c7 T0 w0 p1.Kids) (h2:Q56 a8 c8 T0 w0 p2) (h3:Q56 a9 c9 T0 w0 p3) : ∀ r,L5 p0 p1 p2 p3=some r →
    Calls Tryz.prog 179 #[pt Y2 Y1,Q26 a7 c7 p1,Q67 a8 c8 p2,Q67 a9 c9 p3] w0 (exR r (fun r=>U7 T0 w0 fun T w v => ∃ a21 c21,v = .agg (Q0f r a21 c21).toArray∧Sep g T w (R++X0 p0 Z5 H1 b1 oo1 a1 n1 c1 a2 n2 c2 a3 n3 c3 a4 n4 c4 r1 r2 a5 n5 c5 a6 n6 c6 pv1)∧Q56 a21 c21 T w r∧True) (fun r=>A5 T0 w0 (Q43 a1 a2 a3 a4 a5 a6 b1 oo1 n1 c1 n2 c2 n3 c3 n4 c4 n5 c5 n6 c6 Z5 H1 g pv1 r1 r2 R r.pos r.e p0))):=by
  intro r hm;refine enter func179 rfl ntmps179 rfl fun J => ?_;unfold L5 at hm;refine sq2 (bX (F8 p1 a7 c7) hS ?_);intro _ b2 _ aJ;refine bX (Q0f p2 a8 c8) aJ ?_;intro _ b3 _ aK;refine bX (Q0f p3 a9 c9) aK ?_;intro _ b4 _ aM;refine aL zv1 aM ?_;intro w4 D _ aP;refine pn ?_;refine O7 hm (fun ax a U => ∃(V:_) (I:_) (W:Z8) (ae:_) (c10:_) (K:_) (x2:Z8) (af:_) (c11:_),JR (nf 71) g T0 w4 a U V (ax W x2=some r) [(0,pt Y2 Y1),(5,pt b2 0),(6,pt b3 0),(7,pt b4 0),(8,pt D 0),(9,pt I 0),(10,pt K 0)] ([U5 D zv1,Q32 a9 b4 c9 p3,Q32 a8 b3 c8 p2,Q23 a7 b2 c7 p1,Y5 R]++(X0 p0 Z5 H1 b1 oo1 a1 n1 c1 a2 n2 c2 a3 n3 c3 a4 n4 c4 r1 r2 a5 n5 c5 a6 n6 c6 pv1 ++ [Q23 ae I c10 W,Q23 af K c11 x2]))∧Q7 ae c10 V U W.Kids∧Q7 af c11 V U x2.Kids) (fun ax hm => ?_) ?_
  · refine rtS [0,1,0,1,0,1,0,1,2,2,2,2] [0,1,2,3,4,5,6,7,8,9,10,11] aP fun w6 cv ab => ?_;obtain⟨u1,aQ,hm⟩:=bindS hm;obtain⟨cs1,aR,_,hT1⟩:=ixS ab aQ h1;obtain⟨_,c12,rfl,h6⟩:=K2 aR;obtain⟨_,aS,hm⟩:=bindS hm;obtain⟨cs2,aT,_,hT2⟩:=ixS ab aS h1;obtain⟨_,c13,rfl,_⟩:=K2 aT;refine tF [8,9] ?_;refine⟨?_,?_,qZt⟩
    · refine brW [9,10,11] [] ?_;refine oaL zv2 ab ?_;intro w7 aV aW ag;refine t1W [9] [10,11] [] ?_;refine oaL zv2 ag ?_;intro w8 aY aZ ah;refine t1W [10] [11] [1,1,0,0] ?_;refine osT 1 ah ?_;intro w9 be ai;refine t1W [11] [] [0,0] ?_;refine osT 0 ai ?_;intro bf bg aj;refine pu ?_;exact je hm (aj.sel (Z1 2 15 ++ [1,0]) rfl)
    refine brW [8,10,11] [] ?_;refine oaL zv2 ab ?_;intro w7 aV aW ag;refine t1W [8] [10,11] [] ?_;refine oaL zv2 ag ?_;intro w8 aY aZ ah;refine t1W [10] [11] [1,1,0,0] ?_;refine osT 0 ah ?_;intro w9 be ai;refine t1W [11] [] [0,0] ?_;refine osT 1 ai ?_;intro bf bg aj;refine pu ?_;exact je hm (aj.sel (Z1 2 15 ++ [0,1]) rfl)
  rintro _ U ⟨V,I,W,ae,c10,K,x2,af,c11,⟨J,hm,rfl,bh,_⟩,h4,h5⟩;refine sq2 (pu ?_);refine cB cf178 hm (Q8a (bh.bun ([0,1,2]++Z1 4 13) [] rfl)) ?_;rintro y1 _ T2 _ _ ⟨rfl,bl,_⟩ hm;refine pv (F9 (by kernel_rfl) rfl (u := .agg #[iv 6,iv y1,.int .u32 0,iv 0,.bool false,iv 0,.bool false,.bool false,.slice none 0 0])) (aL zv3 bl ?_);intro _ O _ bm;refine sT 0 bm ?_;intro bn _ bo;refine pn ?_;have bp:=bo.nilO X2 145;refine O7 hm (fun az a aA => ∃(T3:_) (E:Y4) (ac:_) (n7:_) (c14:_),JR (nf 71) g T2 bn a aA T3 (az E=some r) [(8,pt D 0),(11,pt O 0)] ([Q66 ac n7 c14 E.Kids,Q38 ac O n7 c14 E,U5 D zv1,Y5 R]++X0 p0 Z5 H1 b1 oo1 a1 n1 c1 a2 n2 c2 a3 n3 c3 a4 n4 c4 r1 r2 a5 n5 c5 a6 n6 c6 pv1)) (fun az hm => ?_) ?_
  · refine blk (sq2 (pu ?_));refine cB Q0e hm (Z9 (bp.bun (Z1 0 6 ++ [16,17]) (Z1 6 10) rfl) Z2 hL1) ?_;rintro _ _ _ _ _ ⟨rfl,aC,_⟩ hm;refine pu ?_
    rcases bc hm with ⟨bq,hm⟩ | ⟨bq,hm⟩
    · refine pu ?_;refine cB Y6u hm (Q3s (aC.bun (Z1 0 18) [] rfl) (h5.mono ch)) ?_;rintro _ _ _ _ _ ⟨rfl,aD,_⟩ hm;refine cd hm ?_ ?_ <;> intro cw hm
      · refine rsS [0,1,2,2,0,2] [0,1,2,3,4,5] aD fun cx cy bt => ?_;obtain⟨y4,bu,hm⟩:=bindS hm;refine sS [(1,.agg (V5 p2.term a8 c8).toArray)] Y9s (Q1y (bt.bun ([0,1,2,5]++Z1 8 10 ++ [4]) [] rfl) _ bu) ?_;rintro _ _ _ _ ⟨bv,c15,rfl,bw,h8,_⟩;refine s2W [0] ?_;refine obS (r:=X2) (l:=([p2.term,y4]:List Y4)) (css := [(V5 p2.term a8 c8),(V5 y4 bv c15)]) bw ⟨(X6 (x:=p2.term) (h2.mono ch):X2.rp _ _ _ _),(X6 (x:=y4) h8:X2.rp _ _ _ _),qZt⟩ ?_;intro _ _ _ c16 _ bA;refine s2W [] ?_;refine osT 2 bA ?_;intro _ _ bB;refine pu ?_;exact je hm (bB.sel ([0]++Z1 2 13) rfl)
      refine sq2 (pu ?_);refine cB Q0e hm (Z9 (aD.bun (Z1 0 8) (Z1 8 10) rfl) Z2 hL1) ?_;rintro _ _ _ _ _ ⟨rfl,am,_⟩ hm;refine pu ?_
      rcases bc hm with ⟨bC,hm⟩ | ⟨bC,hm⟩
      · refine pu ?_;refine cB Y6u hm (Q3s (am.bun (Z1 0 18) [] rfl) (h4.mono ch)) ?_;rintro _ _ _ _ _ ⟨rfl,an,_⟩ hm;refine cd hm ?_ ?_ <;> intro cz hm
        · refine rsS [2,0,1,2,0,2] [1,2,0,3,4,5] an fun cA cC bD => ?_;obtain⟨y7,bE,hm⟩:=bindS hm;refine sS [(2,.agg (V5 p3.term a9 c9).toArray)] Y9s (Q1y (bD.bun ([0,1,2,5]++Z1 8 10 ++ [3]) [] rfl) _ bE) ?_;rintro _ _ _ _ ⟨bF,c17,rfl,bG,h9,_⟩;refine s2W [0] ?_;refine obS (r:=X2) (l:=([y7,p3.term]:List Y4)) (css := [(V5 y7 bF c17),(V5 p3.term a9 c9)]) bG ⟨(X6 (x:=y7) h9:X2.rp _ _ _ _),(X6 (x:=p3.term) (h3.mono ch):X2.rp _ _ _ _),qZt⟩ ?_;intro _ _ _ c18 _ bJ;refine s2W [] ?_;refine osT 2 bJ ?_;intro _ _ bK;refine pu ?_;exact je hm (bK.sel ([0]++Z1 2 13) rfl)
        refine sq2 (pu ?_)
        rcases bc hm with ⟨bL,hm⟩ | ⟨bL,hm⟩
        · refine pu ?_;refine cB Q0e hm (Z9 (an.bun [0,1,2,5,6,7] (Z1 8 10) rfl) Z2 hL1) ?_;rintro y8 _ _ _ _ ⟨rfl,aE,_⟩ hm;refine pu ?_;refine nil (J3 [(8,pt D 0),(9,pt I 0),(10,pt K 0),(11,pt O 0),(55,.bool (!y8))] ⟨rfl,rfl,rfl,rfl,rfl,qZt⟩ fun J => ?_);refine cd hm ?_ ?_ <;> intro cD hm
          · refine pu ?_;refine cP Z0e hm (V8 (aE.bun (Z1 0 4++Z1 6 10) [] rfl)) ?_ ?_
            · rintro _ _ _ _ _ ⟨rfl,bN,_⟩ hm;exact pe hm (bN.sel (Z1 3 11) rfl)
            rintro _ _ _ _ _ _ hm;cases hm
          refine pu ?_;refine cP Z0e hm (V8 (aE.bun (Z1 0 4++Z1 6 10) [] rfl)) ?_ ?_
          · rintro _ _ _ _ _ ⟨rfl,bO,_⟩ hm;exact pe hm (bO.sel (Z1 3 11) rfl)
          rintro _ _ _ _ _ _ hm;cases hm
        refine pu ?_;refine nil (J3 [(8,pt D 0),(9,pt I 0),(10,pt K 0),(11,pt O 0),(55,.bool false)] ⟨rfl,rfl,rfl,rfl,rfl,qZt⟩ fun J => ?_);refine cnd (b:=false) rfl (fun h=>nomatch h) (fun _ => ?_);refine pu ?_;refine cP Z0e hm (V8 (an.bun ([0,1,2,5]++Z1 8 10) [] rfl)) ?_ ?_
        · rintro _ _ _ _ _ ⟨rfl,bP,_⟩ hm;exact pe hm (bP.sel (Z1 3 11) rfl)
        rintro _ _ _ _ _ _ hm;cases hm
      refine pn ?_;refine cnd (b:=false) rfl (fun h=>nomatch h) (fun _ => ?_);refine sq2 (pu ?_)
      rcases bc hm with ⟨bQ,hm⟩ | ⟨bQ,hm⟩
      · refine pu ?_;refine cB Q0e hm (Z9 (am.bun [0,1,2,5,6,7] (Z1 8 10) rfl) Z2 hL1) ?_;rintro bR _ _ _ _ ⟨rfl,aF,_⟩ hm;refine pu ?_;refine nil (J3 [(8,pt D 0),(9,pt I 0),(10,pt K 0),(11,pt O 0),(55,.bool (!bR))] ⟨rfl,rfl,rfl,rfl,rfl,qZt⟩ fun J => ?_);refine cd hm ?_ ?_ <;> intro cE hm
        · refine pu ?_;refine cP Z0e hm (V8 (aF.bun (Z1 0 4++Z1 6 10) [] rfl)) ?_ ?_
          · rintro _ _ _ _ _ ⟨rfl,bT,_⟩ hm;exact pe hm (bT.sel (Z1 3 11) rfl)
          rintro _ _ _ _ _ _ hm;cases hm
        refine pu ?_;refine cP Z0e hm (V8 (aF.bun (Z1 0 4++Z1 6 10) [] rfl)) ?_ ?_
        · rintro _ _ _ _ _ ⟨rfl,bU,_⟩ hm;exact pe hm (bU.sel (Z1 3 11) rfl)
        rintro _ _ _ _ _ _ hm;cases hm
      refine pu ?_;refine nil (J3 [(8,pt D 0),(9,pt I 0),(10,pt K 0),(11,pt O 0),(55,.bool false)] ⟨rfl,rfl,rfl,rfl,rfl,qZt⟩ fun J => ?_);refine cnd (b:=false) rfl (fun h=>nomatch h) (fun _ => ?_);refine pu ?_;refine cP Z0e hm (V8 (am.bun ([0,1,2,5]++Z1 8 10) [] rfl)) ?_ ?_
      · rintro _ _ _ _ _ ⟨rfl,bV,_⟩ hm;exact pe hm (bV.sel (Z1 3 11) rfl)
      rintro _ _ _ _ _ _ hm;cases hm
    refine pn ?_;refine cnd (b:=false) rfl (fun h=>nomatch h) (fun _ => ?_);refine sq2 (pu ?_);refine cB Q0e hm (Z9 (aC.bun (Z1 0 8) (Z1 8 10) rfl) Z2 hL1) ?_;rintro _ _ _ _ _ ⟨rfl,ap,_⟩ hm;refine pu ?_
    rcases bc hm with ⟨bW,hm⟩ | ⟨bW,hm⟩
    · refine pu ?_;refine cB Y6u hm (Q3s (ap.bun (Z1 0 18) [] rfl) (h4.mono ch)) ?_;rintro _ _ _ _ _ ⟨rfl,aq,_⟩ hm;refine cd hm ?_ ?_ <;> intro cF hm
      · refine rsS [2,0,1,2,0,2] [1,2,0,3,4,5] aq fun cG cI bY => ?_;obtain⟨ar,bZ,hm⟩:=bindS hm;refine sS [(2,.agg (V5 p3.term a9 c9).toArray)] Y9s (Q1y (bY.bun ([0,1,2,5]++Z1 8 10 ++ [3]) [] rfl) _ bZ) ?_;rintro _ _ _ _ ⟨b0,c19,rfl,b8,b9,_⟩;refine s2W [0] ?_;refine obS (r:=X2) (l:=([ar,p3.term]:List Y4)) (css := [(V5 ar b0 c19),(V5 p3.term a9 c9)]) b8 ⟨(X6 (x:=ar) b9:X2.rp _ _ _ _),(X6 (x:=p3.term) (h3.mono ch):X2.rp _ _ _ _),qZt⟩ ?_;intro _ _ _ c20 _ cc;refine s2W [] ?_;refine osT 2 cc ?_;intro _ _ ce;refine pu ?_;exact je hm (ce.sel ([0]++Z1 2 13) rfl)
      refine sq2 (pu ?_)
      rcases bc hm with ⟨cf,hm⟩ | ⟨cf,hm⟩
      · refine pu ?_;refine cB Q0e hm (Z9 (aq.bun [0,1,2,5,6,7] (Z1 8 10) rfl) Z2 hL1) ?_;rintro cg _ _ _ _ ⟨rfl,aG,_⟩ hm;refine pu ?_;refine nil (J3 [(8,pt D 0),(9,pt I 0),(10,pt K 0),(11,pt O 0),(55,.bool (!cg))] ⟨rfl,rfl,rfl,rfl,rfl,qZt⟩ fun J => ?_);refine cd hm ?_ ?_ <;> intro cJ hm
        · refine pu ?_;refine cP Z0e hm (V8 (aG.bun (Z1 0 4++Z1 6 10) [] rfl)) ?_ ?_
          · rintro _ _ _ _ _ ⟨rfl,ci,_⟩ hm;exact pe hm (ci.sel (Z1 3 11) rfl)
          rintro _ _ _ _ _ _ hm;cases hm
        refine pu ?_;refine cP Z0e hm (V8 (aG.bun (Z1 0 4++Z1 6 10) [] rfl)) ?_ ?_
        · rintro _ _ _ _ _ ⟨rfl,cj,_⟩ hm;exact pe hm (cj.sel (Z1 3 11) rfl)
        rintro _ _ _ _ _ _ hm;cases hm
      refine pu ?_;refine nil (J3 [(8,pt D 0),(9,pt I 0),(10,pt K 0),(11,pt O 0),(55,.bool false)] ⟨rfl,rfl,rfl,rfl,rfl,qZt⟩ fun J => ?_);refine cnd (b:=false) rfl (fun h=>nomatch h) (fun _ => ?_);refine pu ?_;refine cP Z0e hm (V8 (aq.bun ([0,1,2,5]++Z1 8 10) [] rfl)) ?_ ?_
      · rintro _ _ _ _ _ ⟨rfl,ck,_⟩ hm;exact pe hm (ck.sel (Z1 3 11) rfl)
      rintro _ _ _ _ _ _ hm;cases hm
    refine pn ?_;refine cnd (b:=false) rfl (fun h=>nomatch h) (fun _ => ?_);refine sq2 (pu ?_)
    rcases bc hm with ⟨cl,hm⟩ | ⟨cl,hm⟩
    · refine pu ?_;refine cB Q0e hm (Z9 (ap.bun [0,1,2,5,6,7] (Z1 8 10) rfl) Z2 hL1) ?_;rintro cm _ _ _ _ ⟨rfl,aI,_⟩ hm;refine pu ?_;refine nil (J3 [(8,pt D 0),(9,pt I 0),(10,pt K 0),(11,pt O 0),(55,.bool (!cm))] ⟨rfl,rfl,rfl,rfl,rfl,qZt⟩ fun J => ?_);refine cd hm ?_ ?_ <;> intro cK hm
      · refine pu ?_;refine cP Z0e hm (V8 (aI.bun (Z1 0 4++Z1 6 10) [] rfl)) ?_ ?_
        · rintro _ _ _ _ _ ⟨rfl,cn,_⟩ hm;exact pe hm (cn.sel (Z1 3 11) rfl)
        rintro _ _ _ _ _ _ hm;cases hm
      refine pu ?_;refine cP Z0e hm (V8 (aI.bun (Z1 0 4++Z1 6 10) [] rfl)) ?_ ?_
      · rintro _ _ _ _ _ ⟨rfl,co,_⟩ hm;exact pe hm (co.sel (Z1 3 11) rfl)
      rintro _ _ _ _ _ _ hm;cases hm
    refine pu ?_;refine nil (J3 [(8,pt D 0),(9,pt I 0),(10,pt K 0),(11,pt O 0),(55,.bool false)] ⟨rfl,rfl,rfl,rfl,rfl,qZt⟩ fun J => ?_);refine cnd (b:=false) rfl (fun h=>nomatch h) (fun _ => ?_);refine pu ?_;refine cP Z0e hm (V8 (ap.bun ([0,1,2,5]++Z1 8 10) [] rfl)) ?_ ?_
    · rintro _ _ _ _ _ ⟨rfl,cp,_⟩ hm;exact pe hm (cp.sel (Z1 3 11) rfl)
    rintro _ _ _ _ _ _ hm;cases hm
  rintro _ aA ⟨T3,E,ac,n7,c14,J,hm,rfl,cq,_⟩;refine sq2 (pu ?_);refine pv (F9 (by kernel_rfl) rfl (u := .agg #[iv 1,iv E.Kind,iv E.Fn,.int .u32 E.Num,iv E.Var,.bool E.Global,iv E.Size,.bool E.Post,.bool E.Ptr,.slice ac n7 c14,.bool false])) (sT 2 cq ?_);intro _ _ cr;refine pn ?_;obtain⟨_,_,ct,_,rfl⟩:=cr.sl 0;exact re hm (ct.sel (Z1 3 11) rfl)

instance : Ctr Tryz.prog 179 (type_of% @Z0b):=⟨@Z0b,cf179⟩
theorem Q2d {p0:Q0} {p1:Y4} {p2:Y4} {p3 p4} (hS:Q21 a1 a2 a3 a4 a5 a6 b1 oo1 n1 c1 n2 c2 n3 c3 n4 c4 n5 c5 n6 c6 Z5 H1 T0 g w0 pv1 r1 r2 R p0) (Z2:Ln Y2 Y1 Z5) (hL1:Ln b1 oo1 H1) (h1:Q10 a7 c7 T0 w0 p1.Kids) (h2:Q10 a8 c8 T0 w0 p2.Kids) : ∀ r,S7 p0 p1 p2 p3 p4=some r →
    Calls Tryz.prog 164 #[pt Y2 Y1,Q62 a7 c7 p1,Q62 a8 c8 p2,iv p3,iv p4] w0 (U7 T0 w0 (Q53 a1 a2 a3 a4 a5 a6 b1 oo1 n1 c1 n2 c2 n3 c3 n4 c4 n5 c5 n6 c6 Z5 H1 g pv1 r1 r2 R r p0 r.Kids)):=by
  intro r hm;refine enter func164 rfl ntmps164 rfl fun J => ?_;unfold S7 at hm;refine sq2 (bX (V5 p1 a7 c7) hS ?_);intro _ _ _ E;refine bX (V5 p2 a8 c8) E ?_;intro _ _ _ I;refine aL zv3 I ?_;intro _ _ _ K;refine pn ?_;refine sq2 (rtS [0,0,0,0,1,0,2,1,1,2,0,2] [0,1,2,3,4,5,7,8,6,9,10,11] K fun w4 af D => ?_);obtain⟨O,U,hm⟩:=bindS hm;refine tF [6,9] ?_;refine⟨?_,?_,qZt⟩
  · refine brW [9,10,11] [1,1,0] ?_;refine oS Q8s (V3 (D.bun ([0,3,4]++Z1 7 7 ++ [1,2]) [5,6] rfl) hL1 _ U) ?_;rintro _ _ _ _ ⟨rfl,V,_⟩;refine t1W [9] [10,11] [0,0] ?_;refine obS (r:=X2) (l:=([p1,p2]:List Y4)) (css := [(V5 p1 a7 c7),(V5 p2 a8 c8)]) V ⟨(X6 (x:=p1) (h1.mono ch):X2.rp _ _ _ _),(X6 (x:=p2) (h2.mono ch):X2.rp _ _ _ _),qZt⟩ ?_;intro _ W n7 c9 _ ab;refine pu ?_;refine t0 rfl qZt (fun _=>F9 (by kernel_rfl) rfl (u := .agg #[iv 14,iv p4,.int .u32 0,iv 0,.bool false,iv O,.bool false,.bool true,.slice W n7 c9])) rfl (?_);refine t1W [11] [] [] ?_;refine osT 1 ab ?_;intro _ _ ac;refine pn ?_;obtain⟨_,_,ad,h3,rfl⟩:=ac.sl 0;exact re hm (ad.sel ([2,3,13,14]++Z1 4 7) rfl)
  have ag:HL 1 X2 ([p1,p2]:List Y4) [(V5 p1 a7 c7),(V5 p2 a8 c8)]:=⟨qZt⟩;have dd:KD [(6,[4]),(9,[7,8]),(11,[4,6,7,8,9])]:=⟨qZt⟩;exact zr hm D

instance : Ctr Tryz.prog 164 (type_of% @Q2d):=⟨@Q2d,cf164⟩
theorem Z0a {p0:Q0} {p1:Pos} {p2:Z7} {p3:Y4} {p4} (hS:Q21 a1 a2 a3 a4 a5 a6 b1 oo1 n1 c1 n2 c2 n3 c3 n4 c4 n5 c5 n6 c6 Z5 H1 T0 g w0 pv1 r1 r2 R p0) (Z2:Ln Y2 Y1 Z5) (hL1:Ln b1 oo1 H1) (h1:Q56 a7 c7 T0 w0 p2) (h2:Q10 a8 c8 T0 w0 p3.Kids) : ∀ r,C4 p0 p1 p2 p3 p4=some r →
    Calls Tryz.prog 180 #[pt Y2 Y1,Q33 p1,Q67 a7 c7 p2,Q62 a8 c8 p3,iv p4] w0 (exR r (fun r=>U7 T0 w0 fun T w v => ∃ a10 c10,v = .agg (Q0f r a10 c10).toArray∧Sep g T w (R++X0 p0 Z5 H1 b1 oo1 a1 n1 c1 a2 n2 c2 a3 n3 c3 a4 n4 c4 r1 r2 a5 n5 c5 a6 n6 c6 pv1)∧Q56 a10 c10 T w r∧True) (fun r=>A5 T0 w0 (Q43 a1 a2 a3 a4 a5 a6 b1 oo1 n1 c1 n2 c2 n3 c3 n4 c4 n5 c5 n6 c6 Z5 H1 g pv1 r1 r2 R r.pos r.e p0))):=by
  intro r hm;refine enter func180 rfl ntmps180 rfl fun J => ?_;unfold C4 at hm;refine sq2 (bX [iv p1.Line,iv p1.Col] hS ?_);intro _ _ _ E;refine bX (Q0f p2 a7 c7) E ?_;intro _ _ _ I;refine bX (V5 p3 a8 c8) I ?_;intro _ _ _ K;refine aL zv1 K ?_;intro _ _ _ O;refine pn ?_;refine sq2 (pu ?_);refine cB cf163 hm (Q0k (O.bun (Z1 0 5) (Z1 5 10) rfl) Z2 hL1) ?_;rintro _ _ _ _ _ ⟨rfl,D,_⟩ hm;refine pn ?_;refine sq2 (sq2 (cd hm ?_ ?_)) <;> intro V hm
  · exact zr hm D
  refine pn ?_;refine sq2 (rsS [0,1,0,0,1,1,0,0,2,0,2] [0,1,2,3,4,5,6,7,8,9,10] D fun W aa U => ?_);have dd:KD [(8,[4,5]),(10,[1,4,5,8])]:=⟨qZt⟩;exact zr hm U

instance : Ctr Tryz.prog 180 (type_of% @Z0a):=⟨@Z0a,cf180⟩
theorem V1 {p0:Q0} {p1:Z8} {p2:Z7} {p3} (hS:Q21 a1 a2 a3 a4 a5 a6 b1 oo1 n1 c1 n2 c2 n3 c3 n4 c4 n5 c5 n6 c6 Z5 H1 T0 g w0 pv1 r1 r2 R p0) (Z2:Ln Y2 Y1 Z5) (hL1:Ln b1 oo1 H1) (h1:Q7 a7 c7 T0 w0 p1.Kids) (h2:Q56 a8 c8 T0 w0 p2) : ∀ r,G8 p0 p1 p2 p3=some r →
    Calls Tryz.prog 104 #[pt Y2 Y1,Q26 a7 c7 p1,Q67 a8 c8 p2,iv p3] w0 (exR r (fun r=>U7 T0 w0 (Q53 a1 a2 a3 a4 a5 a6 b1 oo1 n1 c1 n2 c2 n3 c3 n4 c4 n5 c5 n6 c6 Z5 H1 g pv1 r1 r2 R r p0 r.Kids)) (fun r=>A5 T0 w0 (Q43 a1 a2 a3 a4 a5 a6 b1 oo1 n1 c1 n2 c2 n3 c3 n4 c4 n5 c5 n6 c6 Z5 H1 g pv1 r1 r2 R r.pos r.e p0))):=by
  intro r hm;refine enter func104 rfl ntmps104 rfl fun J => ?_;unfold G8 at hm;refine sq2 (bX (F8 p1 a7 c7) hS ?_);intro _ O _ aj;refine bX (Q0f p2 a8 c8) aj ?_;intro _ U _ ak;refine aL zv3 ak ?_;intro _ V _ am;refine pn ?_;refine sq2 (blk (sq2 (pu ?_)));refine cB Q0e hm (Z9 (am.bun (Z1 0 4) (Z1 4 10) rfl) Z2 hL1) ?_;rintro _ _ _ _ _ ⟨rfl,ab,_⟩ hm;refine pu ?_
  rcases bc hm with ⟨an,hm⟩ | ⟨an,hm⟩
  · refine pu ?_;refine cB Y6u hm (Q3s (ab.bun (Z1 0 14) [] rfl) (h1.mono ch)) ?_;rintro _ _ _ _ _ ⟨rfl,ac,_⟩ hm;refine cd hm ?_ ?_ <;> intro ao hm
    · exact zr hm ac
    refine sq2 (pu ?_);refine cB Q0e hm (Z9 (ac.bun (Z1 0 4) (Z1 4 10) rfl) Z2 hL1) ?_;rintro y4 _ _ _ _ ⟨rfl,W,_⟩ hm;refine pu ?_;refine fkC (d:=27) (c:=(y4&&(p2.n == p3))) 5 [(0,pt Y2 Y1),(3,iv p3),(5,pt O 0),(6,pt U 0),(8,pt V 0)] rfl (fun hk => ?_) fun J => ?_
    · rcases Bool.eq_false_or_eq_true y4 with D | D
      · exact  gT (d0:=22) rfl rfl D (pv (Q0h rfl underlying202 rfl sizeOf3 rfl) (gT (d0:=22) rfl rfl D (pv (Q0p rfl isAgg3 (W.cell0 (i:=1) ⟨rfl,rfl⟩ (j:=0) rfl)) (gT (d0:=22) rfl rfl D (pv (r_mi rfl) (gT (d0:=22) rfl rfl D (pv (Q6y rfl rfl rfl) (pv (O5 rfl D rfl) (wlR (fun J=>hk J _ (by rw [D]; rfl)) ⟨rfl,rfl,rfl,rfl,rfl,rfl,qZt⟩)))))))))
      exact  gF4 (d0:=22) rfl rfl (by rw [D]; rfl) (pv (O6 rfl D rfl) (wlR (fun J=>hk J _ (by rw [D]; rfl)) ⟨rfl,rfl,rfl,rfl,rfl,rfl,qZt⟩))
    refine cd hm ?_ ?_ <;> intro ap hm
    · exact zr hm W
    refine sq2 (pu ?_);refine cB Q0e hm (Z9 (W.bun (Z1 0 4) (Z1 4 10) rfl) Z2 hL1) ?_;rintro y5 _ _ _ _ ⟨rfl,af,_⟩ hm;refine pu ?_;refine fkC (d:=39) (c:=((!y5)&&(p2.n == 1))) 4 [(5,pt O 0),(6,pt U 0),(8,pt V 0)] rfl (fun hk => ?_) fun J => ?_
    · rcases Bool.eq_false_or_eq_true (!y5) with I | I
      · exact  gT (d0:=35) rfl rfl I (pv (Q0h rfl underlying202 rfl sizeOf3 rfl) (gT (d0:=35) rfl rfl I (pv (Q0p rfl isAgg3 (af.cell0 (i:=1) ⟨rfl,rfl⟩ (j:=0) rfl)) (gT (d0:=35) rfl rfl I (pv (Q6y rfl rfl rfl) (pv (O5 rfl I rfl) (wlR (fun J=>hk J _ (by rw [I]; rfl)) ⟨rfl,rfl,rfl,rfl,qZt⟩)))))))
      exact  gF3 (d0:=35) rfl rfl (by rw [I]; rfl) (pv (O6 rfl I rfl) (wlR (fun J=>hk J _ (by rw [I]; rfl)) ⟨rfl,rfl,rfl,rfl,qZt⟩))
    exact zr hm af
  refine pn ?_;refine cnd (b:=false) rfl (fun h=>nomatch h) (fun _ => ?_);refine sq2 (pu ?_);refine cB Q0e hm (Z9 (ab.bun (Z1 0 4) (Z1 4 10) rfl) Z2 hL1) ?_;rintro y7 _ _ _ _ ⟨rfl,aa,_⟩ hm;refine pu ?_;refine fkC (d:=27) (c:=(y7&&(p2.n == p3))) 5 [(0,pt Y2 Y1),(3,iv p3),(5,pt O 0),(6,pt U 0),(8,pt V 0)] rfl (fun hk => ?_) fun J => ?_
  · rcases Bool.eq_false_or_eq_true y7 with E | E
    · exact  gT (d0:=22) rfl rfl E (pv (Q0h rfl underlying202 rfl sizeOf3 rfl) (gT (d0:=22) rfl rfl E (pv (Q0p rfl isAgg3 (aa.cell0 (i:=1) ⟨rfl,rfl⟩ (j:=0) rfl)) (gT (d0:=22) rfl rfl E (pv (r_mi rfl) (gT (d0:=22) rfl rfl E (pv (Q6y rfl rfl rfl) (pv (O5 rfl E rfl) (wlR (fun J=>hk J _ (by rw [E]; rfl)) ⟨rfl,rfl,rfl,rfl,rfl,rfl,qZt⟩)))))))))
    exact  gF4 (d0:=22) rfl rfl (by rw [E]; rfl) (pv (O6 rfl E rfl) (wlR (fun J=>hk J _ (by rw [E]; rfl)) ⟨rfl,rfl,rfl,rfl,rfl,rfl,qZt⟩))
  refine cd hm ?_ ?_ <;> intro aq hm
  · exact zr hm aa
  refine sq2 (pu ?_);refine cB Q0e hm (Z9 (aa.bun (Z1 0 4) (Z1 4 10) rfl) Z2 hL1) ?_;rintro y8 _ _ _ _ ⟨rfl,ai,_⟩ hm;refine pu ?_;refine fkC (d:=39) (c:=((!y8)&&(p2.n == 1))) 4 [(5,pt O 0),(6,pt U 0),(8,pt V 0)] rfl (fun hk => ?_) fun J => ?_
  · rcases Bool.eq_false_or_eq_true (!y8) with K | K
    · exact  gT (d0:=35) rfl rfl K (pv (Q0h rfl underlying202 rfl sizeOf3 rfl) (gT (d0:=35) rfl rfl K (pv (Q0p rfl isAgg3 (ai.cell0 (i:=1) ⟨rfl,rfl⟩ (j:=0) rfl)) (gT (d0:=35) rfl rfl K (pv (Q6y rfl rfl rfl) (pv (O5 rfl K rfl) (wlR (fun J=>hk J _ (by rw [K]; rfl)) ⟨rfl,rfl,rfl,rfl,qZt⟩)))))))
    exact  gF3 (d0:=35) rfl rfl (by rw [K]; rfl) (pv (O6 rfl K rfl) (wlR (fun J=>hk J _ (by rw [K]; rfl)) ⟨rfl,rfl,rfl,rfl,qZt⟩))
  exact zr hm ai

instance : Ctr Tryz.prog 104 (type_of% @V1):=⟨@V1,Z2k⟩
theorem Q1i {p0:Q0} {p1} (hS:Q21 a1 a2 a3 a4 a5 a6 b1 oo1 n1 c1 n2 c2 n3 c3 n4 c4 n5 c5 n6 c6 Z5 H1 T0 g w0 pv1 r1 r2 R p0) (Z2:Ln Y2 Y1 Z5) (hL1:Ln b1 oo1 H1) : ∀ r,F0 p0 p1=some r →
    Calls Tryz.prog 182 #[pt Y2 Y1,iv p1] w0 (U7 T0 w0 fun T w v=>v=iv r∧Q15 a1 a2 a3 a4 a5 a6 b1 oo1 n1 c1 n2 c2 n3 c3 n4 c4 n5 c5 n6 c6 Z5 H1 T g w pv1 r1 r2 R p0):=by
  intro r hm;refine enter func182 rfl ntmps182 rfl fun J => ?_;unfold F0 at hm;exact zr hm hS

instance : Ctr Tryz.prog 182 (type_of% @Q1i):=⟨@Q1i,cf182⟩
theorem L0 {p0:Q0} {p1:Z8} {p2:Z7} {p3} (hS:Q21 a1 a2 a3 a4 a5 a6 b1 oo1 n1 c1 n2 c2 n3 c3 n4 c4 n5 c5 n6 c6 Z5 H1 T0 g w0 pv1 r1 r2 R p0) (Z2:Ln Y2 Y1 Z5) (hL1:Ln b1 oo1 H1) (h1:Q7 a7 c7 T0 w0 p1.Kids) (h2:Q56 a8 c8 T0 w0 p2) : ∀ r,D8 p0 p1 p2 p3=some r →
    Calls Tryz.prog 173 #[pt Y2 Y1,Q26 a7 c7 p1,Q67 a8 c8 p2,iv p3] w0 (exR r (fun r=>U7 T0 w0 (Q53 a1 a2 a3 a4 a5 a6 b1 oo1 n1 c1 n2 c2 n3 c3 n4 c4 n5 c5 n6 c6 Z5 H1 g pv1 r1 r2 R r p0 r.Kids)) (fun r=>A5 T0 w0 (Q43 a1 a2 a3 a4 a5 a6 b1 oo1 n1 c1 n2 c2 n3 c3 n4 c4 n5 c5 n6 c6 Z5 H1 g pv1 r1 r2 R r.pos r.e p0))):=by
  intro r hm;refine enter func173 rfl ntmps173 rfl fun J => ?_;unfold D8 at hm;refine sq2 (bX (F8 p1 a7 c7) hS ?_);intro _ _ _ I;refine bX (Q0f p2 a8 c8) I ?_;intro _ _ _ K;refine aL zv3 K ?_;intro _ _ _ O;refine pn ?_;refine sq2 (pu ?_);refine cP Z2k hm (V1 (O.bun [0,3] (Z1 4 10) rfl) Z2 hL1 (h1.mono ch) (h2.mono ch)) ?_ ?_
  · rintro _ _ _ _ _ ⟨rfl,U,_⟩ hm;exact pe hm (U.sel (Z1 1 11) rfl)
  rintro D _ _ _ _ ⟨V,c9,rfl,W,h3,_⟩ hm;refine aL zv3 W ?_;intro _ _ _ aa;refine sT 0 aa ?_;intro _ _ E;refine pn ?_;refine sq2 (sq2 (cd hm ?_ ?_)) <;> intro ah hm
  · refine sq2 (bS (r:=X2) (l:=([D]:List Y4)) (css := [(V5 D V c9)]) E ⟨(X6 (x:=D) (h3.mono ch):X2.rp _ _ _ _),qZt⟩ ?_);intro _ ab n7 c10 _ ad;refine pv (F9 (by kernel_rfl) rfl (u := .agg #[iv 17,iv 0,.int .u32 0,iv 0,.bool false,iv 0,.bool false,.bool false,.slice ab n7 c10])) (sT 2 ad ?_);intro _ _ ae;refine pn ?_;obtain⟨_,_,af,_,rfl⟩:=ae.sl 0;exact re hm (af.sel (Z1 3 11) rfl)
  refine pn ?_;refine sq2 (sT 1 E ?_);intro _ _ ag;exact re hm (ag.sel (Z1 2 11) rfl)

instance : Ctr Tryz.prog 173 (type_of% @L0):=⟨@L0,Y9q⟩
theorem Q2q {p0:Q0} {p1:Pos} {p2:Z7} (hS:Q21 a1 a2 a3 a4 a5 a6 b1 oo1 n1 c1 n2 c2 n3 c3 n4 c4 n5 c5 n6 c6 Z5 H1 T0 g w0 pv1 r1 r2 R p0) (Z2:Ln Y2 Y1 Z5) (hL1:Ln b1 oo1 H1) (h1:Q56 a7 c7 T0 w0 p2) : ∀ r,M0 p0 p1 p2=some r →
    Calls Tryz.prog 139 #[pt Y2 Y1,Q33 p1,Q67 a7 c7 p2] w0 (exR r (fun r=>U7 T0 w0 fun T w v => ∃ a15 c15 a16 n11 c16,v = .agg (Q0f r.1 a15 c15).toArray∧Sep g T w (R++X0 r.2 Z5 H1 b1 oo1 a16 n11 c16 a2 n2 c2 a3 n3 c3 a4 n4 c4 r1 r2 a5 n5 c5 a6 n6 c6 pv1)∧Q56 a15 c15 T w r.1∧True) (fun r=>A5 T0 w0 (Q34 a2 a3 a4 a5 a6 b1 oo1 n2 c2 n3 c3 n4 c4 n5 c5 n6 c6 Z5 H1 g pv1 r1 r2 R r.1.pos r.1.e r.2))):=by
  intro r hm;refine enter func139 rfl ntmps139 rfl fun J => ?_;unfold M0 at hm;refine sq2 (bX [iv p1.Line,iv p1.Col] hS ?_);intro _ b2 _ aM;refine bX (Q0f p2 a7 c7) aM ?_;intro _ b3 _ aN;refine aL zv1 aN ?_;intro w3 E _ au;refine pn ?_;refine sq2 (sq2 (cd hm ?_ ?_)) <;> intro bG hm
  · exact zr hm au
  refine pn ?_;refine O7 hm (fun av a w5 => ∃(T1:_) (O:_) (I:Q6f) (a8:_) (c8:_),JR (nf 78) g T0 w3 a w5 T1 (av I=some r) [(0,pt Y2 Y1),(4,pt b2 0),(5,pt b3 0),(6,pt E 0),(7,pt O 0)] ([U5 E zv1,Q32 a7 b3 c7 p2,U5 b2 [iv p1.Line,iv p1.Col],Y5 R]++(X0 p0 Z5 H1 b1 oo1 a1 n1 c1 a2 n2 c2 a3 n3 c3 a4 n4 c4 r1 r2 a5 n5 c5 a6 n6 c6 pv1 ++ [U5 O (Y5l I a8 c8)]))∧Q45 a8 c8 T1 w5 I.Fields) (fun av hm => ?_) ?_
  · refine rtS [0,0,0,1,0,1,2,0,0,0,2,2,0] [0,1,2,3,4,5,6,7,8,9,10,11,12] au fun w6 bJ aw => ?_;obtain⟨_,ax,hm⟩:=bindS hm;refine tF [6,10] ?_;refine⟨?_,?_,qZt⟩
    · refine brW [7,8,9,10,11,12] [0,0] ?_;refine oS Y6v (S5 (aw.bun (Z1 0 5++Z1 7 7) [5,6] rfl) hL1 _ ax) ?_;rintro _ T2 w7 aS ⟨a9,c9,rfl,ah,h3,_⟩;refine t1W [10] [11,12] [] ?_;refine oaL zv7 ah ?_;intro w8 b6 aW ai;refine t1W [11] [12] [] ?_;refine osT 0 ai ?_;intro w9 aY aj;refine pu ?_;exact je hm (aj.sel (Z1 1 5 ++ [13,14]++Z1 6 7 ++ [0]) rfl)
    refine brW [6,7,8,9,11,12] [] ?_;refine oaL zv7 aw ?_;intro w7 b6 aS ah;refine t1W [6] [7,8,9,11,12] [0,0] ?_;refine oS Y6v (S5 (ah.bun (Z1 0 6++Z1 8 7) [6,7] rfl) hL1 _ ax) ?_;rintro _ T2 w8 aW ⟨a9,c9,rfl,ai,h3,_⟩;refine t1W [11] [12] [] ?_;refine osT 0 ai ?_;intro w9 aY aj;refine pu ?_;exact je hm (aj.sel (Z1 1 5 ++ [13,14]++Z1 6 7 ++ [0]) rfl)
  rintro _ w5 ⟨T1,O,I,a8,c8,⟨J,hm,rfl,aZ,_⟩,h2⟩;refine sq2 (rsS [0,0,0,1,0,1,2,0] [0,1,2,3,4,5,6,7] aZ fun bK bL ba => ?_);obtain⟨U,be,hm⟩:=bindS hm;refine sS [] Q8s (V3 (ba.bun (Z1 0 5++Z1 7 8) [5,6] rfl) hL1 _ be) ?_;rintro _ T3 _ _ ⟨rfl,ay,_⟩;refine pn ?_;refine sq2 (blk (sq2 (cd hm ?_ ?_))) <;> intro bM hm
  · refine sq2 (aL zv3 ay ?_);intro _ b7 _ bg;refine sT 0 bg ?_;intro bh _ bi;refine pn ?_;refine O7 hm (fun aA a ak => ∃(T4:_) (D:Y4) (K:_) (c10:_),JR (nf 78) g T3 bh a ak T4 (aA D=some r) [(0,pt Y2 Y1),(4,pt b2 0),(6,pt E 0),(7,pt O 0),(10,pt b7 0)] [Q68 K b7 c10 D,U5 E zv1,U5 b2 [iv p1.Line,iv p1.Col],Y5 R,Z5 [pt b1 oo1,.slice a2 n2 c2,.slice a3 n3 c3,.slice a4 n4 c4,iv p0.u.Main,.map r1,.map r2,.slice a5 n5 c5,.slice a6 n6 c6,pv1],K3 Q0i 49 (.slice a2 n2 c2) p0.u.Globals,K3 (rSl (E6 .u8)) 51 (.slice a3 n3 c3) p0.u.Data,K3 Q5y 32 (.slice a4 n4 c4) p0.u.Codes,Q81 r1 p0.globals,Q81 r2 p0.codes,K3 (E6 .i64) 3 (.slice a5 n5 c5) p0.gtypes,K3 Q2g 171 (.slice a6 n6 c6) p0.signs,U5 O (Y5l I a8 c8),H1 [.slice a1 n1 c1],K3 E5 122 (.slice a1 n1 c1) p0.t.list]∧Q10 K c10 T4 ak D.Kids) (fun aA hm => ?_) ?_
    · have bN:HL 1 X2 ([p2.term]:List Y4) [(V5 p2.term a7 c7)]:=⟨qZt⟩;have dd:KD [(6,[3,5])]:=⟨qZt⟩;exact zr hm bi
    rintro _ ak ⟨T4,D,K,c10,⟨J,hm,rfl,bj,_⟩,_⟩;refine sq2 (Z0c [0,1,0,1,2,1,0,2] [0,1,2,3,5,4,6,7] bj (V9 (S4 (V9 (P8)))) fun bO bP aC => ?_);refine pu ?_;obtain⟨y3,aD,hm⟩:=bindS hm
    rcases y3 with e1 | y3
    · have hm:=K0 hm;refine s2 [(5,.agg (V5 D K c10).toArray)] rfl qZt rfl (by kernel_rfl) (Q7m Y9r rfl (L9 (p0:=p0) (p1:=p1) (p2:=I.Elem) (aC.bun [1,3,0,12,2] ([4,13,14]++Z1 5 7) rfl) Z2 hL1 _ aD) rfl fun v4 T7 bU bV bk => ?_);obtain⟨_,_,c13,rfl,bl,_⟩:=bk;exact pe hm (bl.sel ([1]++Z1 5 10) rfl)
    have hm:=B8 hm;refine sS [(5,.agg (V5 D K c10).toArray)] Y9r (L9 (aC.bun [1,3,0,12,2] ([4,13,14]++Z1 5 7) rfl) Z2 hL1 _ aD) ?_;rintro _ _ _ _ ⟨_,_,c12,rfl,bm,_⟩;refine pu ?_;refine s0 rfl qZt (fun _=>F9 (by kernel_rfl) rfl (u := .agg #[iv y3.1,iv D.Kind,iv D.Fn,.int .u32 D.Num,iv D.Var,.bool D.Global,iv D.Size,.bool D.Post,.bool D.Ptr,sv K D.Kids c10,.bool false])) rfl (?_);refine s2W [0] ?_;refine osT 0 bm ?_;intro _ _ bn;exact re hm (bn.sel ([1]++Z1 5 10) rfl)
  refine sq2 (rsS [0,0,0,1,0,1,2,0,0] [0,1,2,3,4,5,6,7,8] ay fun bW bY bo => ?_);obtain⟨_,bp,hm⟩:=bindS hm;refine sS [] cf76 (W1 (bo.bun (Z1 0 12) [13,14] rfl) hL1 _ bp) ?_;rintro _ T8 bt _ ⟨rfl,aE,_⟩;refine cd hm ?_ ?_ <;> intro bZ hm
  · have dd:KD [(6,[3,5])]:=⟨qZt⟩;exact zr hm aE
  refine pn ?_;refine sq2 (pn ?_);refine O7 hm (fun aF a aG => ∃ aI V,JR (nf 78) g T8 bt a aG aI (aF V=some r) [(0,pt Y2 Y1),(5,pt b3 0),(6,pt E 0),(9,iv U),(11,iv V)] [U5 E zv1,Q32 a7 b3 c7 p2,Y5 R,Z5 [pt b1 oo1,.slice a2 n2 c2,.slice a3 n3 c3,.slice a4 n4 c4,iv p0.u.Main,.map r1,.map r2,.slice a5 n5 c5,.slice a6 n6 c6,pv1],K3 Q0i 49 (.slice a2 n2 c2) p0.u.Globals,K3 (rSl (E6 .u8)) 51 (.slice a3 n3 c3) p0.u.Data,K3 Q5y 32 (.slice a4 n4 c4) p0.u.Codes,Q81 r1 p0.globals,Q81 r2 p0.codes,K3 (E6 .i64) 3 (.slice a5 n5 c5) p0.gtypes,K3 Q2g 171 (.slice a6 n6 c6) p0.signs,H1 [.slice a1 n1 c1],K3 E5 122 (.slice a1 n1 c1) p0.t.list]) (fun aF hm => ?_) ?_
  · have dd:KD [(6,[3,5])]:=⟨qZt⟩;exact zr hm aE
  rintro _ aG ⟨aI,V,J,hm,rfl,bu,_⟩;refine sq2 (rtS [0,0,0,0,2,0,1,2,0,0,2] [0,1,2,3,5,6,4,7,8,9,10] bu fun b0 b8 aJ => ?_);obtain⟨y6,aK,hm⟩:=bindS hm;refine tF [4,7] ?_;refine⟨?_,?_,qZt⟩
  · refine brW [7,8,9,10] [] ?_;refine oS Q0e (Z9 (aJ.bun [0,2,1] ([3,11,12]++Z1 4 7) rfl) Z2 hL1 _ aK) ?_;rintro _ bv bw bz ⟨rfl,ao,_⟩;refine t1W [7] [8,9,10] [0] ?_;refine obS (r:=X2) (l:=([p2.term]:List Y4)) (css := [(V5 p2.term a7 c7)]) ao ⟨(X6 (x:=p2.term) (h1.mono ch):X2.rp _ _ _ _),qZt⟩ ?_;intro bA W aa c14 bB ap;refine pu ?_;refine t0 rfl qZt (fun _=>F9 (by kernel_rfl) rfl (u := .agg #[iv 3,iv 0,.int .u32 0,iv 0,.bool false,iv U,.bool false,.bool y6,.slice W aa c14])) rfl (t0 rfl qZt (fun _=>F9 (by kernel_rfl) rfl (u := .agg #[iv V,iv 3,iv 0,.int .u32 0,iv 0,.bool false,iv U,.bool false,.bool y6,.slice W aa c14,.bool false])) rfl (?_));refine t1W [10] [] [] ?_;refine osT 1 ap ?_;intro bC bD aq;refine pn ?_;obtain⟨bE,bF,ar,h6,rfl⟩:=aq.sl 0;exact re hm (ar.sel ([2]++Z1 4 10) rfl)
  refine brW [4,8,9,10] [0] ?_;refine obS (r:=X2) (l:=([p2.term]:List Y4)) (css := [(V5 p2.term a7 c7)]) aJ ⟨(X6 (x:=p2.term) (h1.mono ch):X2.rp _ _ _ _),qZt⟩ ?_;intro bw W aa c14 bz ao;refine t1W [4] [8,9,10] [] ?_;refine oS Q0e (Z9 (ao.bun [0,1,3] ([4,12,13]++Z1 5 7) rfl) Z2 hL1 _ aK) ?_;rintro _ bv bA bB ⟨rfl,ap,_⟩;refine pu ?_;refine t0 rfl qZt (fun _=>F9 (by kernel_rfl) rfl (u := .agg #[iv 3,iv 0,.int .u32 0,iv 0,.bool false,iv U,.bool false,.bool y6,.slice W aa c14])) rfl (t0 rfl qZt (fun _=>F9 (by kernel_rfl) rfl (u := .agg #[iv V,iv 3,iv 0,.int .u32 0,iv 0,.bool false,iv U,.bool false,.bool y6,.slice W aa c14,.bool false])) rfl (?_));refine t1W [10] [] [] ?_;refine osT 1 ap ?_;intro bC bD aq;refine pn ?_;obtain⟨bE,bF,ar,h6,rfl⟩:=aq.sl 0;exact re hm (ar.sel (Z1 2 11) rfl)

instance : Ctr Tryz.prog 139 (type_of% @Q2q):=⟨@Q2q,cf139⟩
theorem Z2i {p0:Z6} {p1} {p2:List UInt8} (hS:Q25 a1 n1 c1 Z5 T0 g w0 R p0) (Z2:Ln Y2 Y1 Z5) : ∀ r,Q3c p0 p1 p2=some r →
    Calls Tryz.prog 183 #[pt Y2 Y1,iv p1,Q16 p2.toArray] w0 (U7 T0 w0 fun T w v=>v = .tuple #[Q83 r.1,iv r.2]∧Q22 a1 n1 c1 Z5 T g w R p0):=by
  intro r hm;refine enter func183 rfl ntmps183 rfl fun J => ?_;unfold Q3c at hm;refine sq2 (aL zv14 hS ?_);intro _ E _ ab;refine pn ?_;refine sq2 (blk (sq2 (pu ?_)));refine pv (r_pne rfl rfl rfl underlying65) (pn ?_);refine cnd (b:=false) rfl (fun h=>nomatch h) (fun _ => ?_);refine sq2 (pu ?_);refine cB cf110 hm (Q6s (ab.bun [0,1] [2,3] rfl) Z2) ?_;rintro _ _ T1 w2 _ ⟨rfl,D,_⟩ hm;refine cd hm ?_ ?_ <;> intro ak hm
  · exact zr hm D
  refine sq2 ?_;obtain⟨u1,K,hm⟩:=bindS hm;obtain⟨cs1,ae,_⟩:=(D.own (i:=3) ⟨rfl,rfl⟩).v.ixcS K rfl;obtain⟨O,c2,rfl,h1⟩:=C6 ae;refine cd hm ?_ ?_ <;> intro am hm
  · exact zr hm D
  refine pn ?_;refine sq2 (sq2 ?_);obtain⟨u2,ag,hm⟩:=bindS hm;obtain rfl:u1=u2:=oI (K.symm.trans ag);refine pu ?_;refine nil (J3 [(2,(qZs p2)),(6,pt E 0),(40,sv O u1.Type_.Fields c2),(41,iv (List.length u1.Type_.Fields:Int)),(42,iv 0)] ⟨rfl,rfl,rfl,rfl,rfl,qZt⟩ fun J => ?_);refine lpJ hm (fun U V m a W => ∃ T2 I,JR (nf 53) g T1 w2 a W T2 (loopM U m I=some V) [(2,(qZs p2)),(6,pt E 0),(40,sv O u1.Type_.Fields c2),(41,iv (List.length u1.Type_.Fields:Int)),(42,iv I)] [U5 E zv14,Y5 R,Z5 [.slice a1 n1 c1],Q8 a1 n1 c1 p0]) (fun _ _ h=>je h (D.sel (Z1 0 4) rfl)) ?_;rintro U ah V _ _ _ W ⟨T2,I,J,ai,rfl,aj,_⟩;obtain⟨m1,_,rfl,hm,_⟩:=lrE ai ah;exact zr hm aj
instance : Ctr Tryz.prog 183 (type_of% @Z2i):=⟨@Z2i,cf183⟩
end Go.Proofs.YtfffghclkmbopaaGreat
