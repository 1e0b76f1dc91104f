/- That Go functions compute their models. Printed by gen2.py. -/
import Derived.Test.YtfffghclkmbopaaGreatKWef
set_option linter.unusedVariables false
namespace Go.Proofs.YtfffghclkmbopaaGreat
section
variable {P:Program} {n:NF} {J:Nat→Value} {L:List (Nat×Value)} {w:World} {x y:Operand} {d:Nat} {t t2 ty:TypeId} {pos:String} {aft:Array Edge}
theorem r_seqe {a b:Value} {r:Bool} (hx:ev n J L x=a) (hy:ev n J L y=b) (h : ∀ x y w,(do eqGuard .eql t x y a b; binOp .eql t a b:Sem Value).run P w = .ok (.bool r) w):(execOp (ev n J L) ⟨some d,.binOp .eql t x y t2,ty,pos,aft,none⟩).run P w = .ok (.value (.bool r)) w:=by
  have:=h x y w; simp only [execOp,hx,hy,Sem.run_bind,this,Result.andThen_ok,Sem.run_pure]
end
open _root_.Go.Proofs.Tryz
set_option maxRecDepth 100000
set_option maxHeartbeats 8000000
attribute [local irreducible] wpList wpQuiet Code.wp
variable {g:World} {T0:Nat→Prop} {w0:World} {R:List Y8}
variable {b1 b2 Y2 Q1c Y0d Y0c Y0z c1 c2 c3 c4 c5 c6 c7 c8 c9 c10 c11 c12 c13 n1 n2 n3 n4 n5 n6 n7 Y1 Q0x Y0a Z9z Y0u oo1 oo2:Nat} {H1 H2 Z5 R5 Z7c Z7b Y0e:List Value→Y8} {a1 a2 a3 a4 a5 a6 a7 a8 a9 a10 a11 a12 a13:OA} {r1 r2:Option Nat} {pv1:Value}
attribute [local irreducible] C7 Q0q execOp Program.underlying sizeOf isAgg zeroValue

def Z1t (F:(List U6)→(List U6)→Option (Bool)):Prop := ∀ {g:World} {T0:TP} {w0:World} {R:List Y8} {p0:List U6} {a1 c1} {p1:List U6} {a2 c2} (hS:Sep g T0 w0 [Y5 R]) (h1:SlR B7 T0 w0 (sv a1 p0 c1) p0) (h2:SlR B7 T0 w0 (sv a2 p1 c2) p1),∀ r,F p0 p1=some r →
    Calls Tryz.prog 12 #[sv a1 p0 c1,sv a2 p1 c2] w0 (Q17 T0 w0 g R r)
structure Sp10 (G:Rec10):Prop where
  L3:Z1t G.L3
theorem Y4x {G:Rec10} (hG:Sp10 G):Z1t (Q8x G):=by
  intro g T0 w0 R p0 a1 c1 p1 a2 c2 hS h1 h2 r hm;refine enter func12 rfl ntmps12 rfl fun J => ?_;unfold Q8x at hm;refine sq2 (pn ?_);refine sq2 (sq2 (cd hm ?_ ?_)) <;> intro bD hm
  · exact sq2 (re hm (hS.sel [0] rfl))
  refine pn ?_;refine sq2 (sq2 (pn ?_));refine lpJ hm (fun aK o1 m a w1 => ∃ T1 x1,JR (nf 127) g T0 w0 a w1 T1 (loopM aK m x1=some o1) [(0,sv a1 p0 c1),(1,sv a2 p1 c2),(5,iv x1)] [Y5 R]) (fun _ _ h=>je h (hS.sel [0] rfl)) ?_;rintro aK be o1 _ _ _ w1 ⟨T1,x1,J,bf,rfl,aN,_⟩;obtain⟨m1,z1,rfl,hm,_⟩:=lrE bf be;refine sq2 (sq2 (cd hm ?_ ?_)) <;> intro bE hm
  · refine pn ?_;refine sq2 (blk (O7 hm (fun aP a w2 => ∃(T2:_) (K:_) (D:U6) (a3:_) (c3:_) (a4:_) (c4:_) (a5:_) (c5:_) (a6:_) (c6:_) (a7:_) (c7:_) (O:_) (E:U6) (a8:_) (c8:_) (a9:_) (c9:_) (ar:_) (c10:_) (au:_) (c11:_) (av:_) (c12:_),JR (nf 127) g T1 w1 a w2 T2 (aP D E=some z1) [(0,sv a1 p0 c1),(1,sv a2 p1 c2),(5,iv x1),(6,pt K 0),(7,pt O 0)] [Y5 R,U5 K (Z9j D a3 c3 a4 c4 a5 c5 a6 c6 a7 c7),U5 O (Z9j E a8 c8 a9 c9 ar c10 au c11 av c12)]∧Q10 a3 c3 T2 w2 D.A∧Q10 a4 c4 T2 w2 D.Post∧Q64 a5 c5 T2 w2 D.Body∧Q64 a6 c6 T2 w2 D.Else∧SlR Q5r T2 w2 (sv a7 D.Cases c7) D.Cases∧Q10 a8 c8 T2 w2 E.A∧Q36 a9 ar au av c9 c10 c11 c12 T2 w2 E) (fun aP hm => ?_) ?_))
    · refine rtS [0,0,0,1,0,0,0,1,2,2,2,2] [0,1,2,3,4,5,6,7,8,9,10,11] aN fun w3 bG bh => ?_;have dd:KD [(8,[]),(9,[]),(10,[3,8,9]),(11,[3,7,8,9,10])]:=⟨qZt⟩;exact zr hm bh
    rintro _ w2 ⟨T2,K,D,a3,c3,a4,c4,a5,c5,a6,c6,a7,c7,O,E,a8,c8,a9,c9,ar,c10,au,c11,av,c12,⟨J,hm,rfl,ai,_⟩,h3,h4,h5,h6,_,h8,h9,bn,bo,_⟩;refine sq2 (sq2 (pu ?_));refine fkC (d:=41) (c:=((D.Kind != E.Kind) || (!(D.First == E.First)))) 6 [(0,sv a1 p0 c1),(1,sv a2 p1 c2),(5,iv x1),(6,pt K 0),(7,pt O 0)] rfl (fun hk => ?_) fun J => ?_
    · rcases Bool.eq_false_or_eq_true (D.Kind != E.Kind) with U | U
      · exact  gF5 (d0:=35) rfl rfl (by rw [U]; rfl) (pv (O5 rfl U rfl) (wlR (fun J=>hk J _ (by rw [U]; rfl)) ⟨rfl,rfl,rfl,rfl,rfl,rfl,qZt⟩))
      exact  gT (d0:=35) rfl rfl U (pv (Q0h rfl underlying102 rfl sizeOf4 rfl) (gT (d0:=35) rfl rfl U (pv (Q0p rfl isAgg4 (ai.cell0 (i:=1) ⟨rfl,rfl⟩ (j:=3) rfl)) (gT (d0:=35) rfl rfl U (pv (Q0h rfl underlying102 rfl sizeOf4 rfl) (gT (d0:=35) rfl rfl U (pv (Q0p rfl isAgg4 (ai.cell0 (i:=2) ⟨rfl,rfl⟩ (j:=3) rfl)) (gT (d0:=35) rfl rfl U (pv (r_bn rfl rfl underlying4) (pv (O6 rfl U rfl) (wlR (fun J=>hk J _ (by rw [U]; rfl)) ⟨rfl,rfl,rfl,rfl,rfl,rfl,qZt⟩)))))))))))
    refine pu ?_;refine fkC (d:=48) (c:=(((D.Kind != E.Kind) || (!(D.First == E.First))) || (D.Var != E.Var))) 6 [(0,sv a1 p0 c1),(1,sv a2 p1 c2),(5,iv x1),(6,pt K 0),(7,pt O 0)] rfl (fun hk => ?_) fun J => ?_
    · rcases Bool.eq_false_or_eq_true ((D.Kind != E.Kind) || (!(D.First == E.First))) with V | V
      · exact  gF5 (d0:=42) rfl rfl (by rw [V]; rfl) (pv (O5 rfl V rfl) (wlR (fun J=>hk J _ (by rw [V]; rfl)) ⟨rfl,rfl,rfl,rfl,rfl,rfl,qZt⟩))
      exact  gT (d0:=42) rfl rfl V (pv (Q0h rfl underlying102 rfl sizeOf3 rfl) (gT (d0:=42) rfl rfl V (pv (Q0p rfl isAgg3 (ai.cell0 (i:=1) ⟨rfl,rfl⟩ (j:=7) rfl)) (gT (d0:=42) rfl rfl V (pv (Q0h rfl underlying102 rfl sizeOf3 rfl) (gT (d0:=42) rfl rfl V (pv (Q0p rfl isAgg3 (ai.cell0 (i:=2) ⟨rfl,rfl⟩ (j:=7) rfl)) (gT (d0:=42) rfl rfl V (pv (Q6y rfl rfl rfl) (pv (O6 rfl V rfl) (wlR (fun J=>hk J _ (by rw [V]; rfl)) ⟨rfl,rfl,rfl,rfl,rfl,rfl,qZt⟩)))))))))))
    refine pu ?_
    rcases bc hm with ⟨bp,hm⟩ | ⟨bp,hm⟩
    · exact zr hm ai
    refine pu ?_;refine cB cf25 hm (Z9d (ai.bun [0,1,2] [] rfl) h3 h8) ?_;rintro _ _ _ _ aQ ⟨rfl,aR,_⟩ hm;refine pu ?_
    rcases bc hm with ⟨bq,hm⟩ | ⟨bq,hm⟩
    · exact zr hm aR
    refine pu ?_;refine cB cf25 hm (Z9d (aR.bun [0,1,2] [] rfl) (h4.mono aQ) (h9.mono aQ)) ?_;rintro _ _ _ _ _ ⟨rfl,aS,_⟩ hm;refine pu ?_
    rcases bc hm with ⟨bt,hm⟩ | ⟨bt,hm⟩
    · exact zr hm aS
    refine pu ?_;refine cB cf12 hm (hG.L3 (aS.bun [0,1,2] [] rfl) (h5.mono ch) (bn.mono ch)) ?_;rintro _ _ _ _ _ ⟨rfl,aT,_⟩ hm;refine pu ?_
    rcases bc hm with ⟨bu,hm⟩ | ⟨bu,hm⟩
    · exact zr hm aT
    refine pu ?_;refine cB cf12 hm (hG.L3 (aT.bun [0,1,2] [] rfl) (h6.mono ch) (bo.mono ch)) ?_;rintro y4 _ T6 bw _ ⟨rfl,ax,_⟩ hm;refine pu ?_;refine fkN (d:=89) (c:=((!y4) || ((List.length D.Cases:Int) != (List.length E.Cases:Int)))) 8 [(0,sv a1 p0 c1),(1,sv a2 p1 c2),(5,iv x1),(6,pt K 0),(7,pt O 0)] rfl (fun hk => ?_) fun J => ?_
    · rcases Bool.eq_false_or_eq_true (!y4) with I | I
      · exact  gF7 (d0:=81) rfl rfl (by rw [I]; rfl) (pv (O5 rfl I rfl) (wlR (fun J=>hk J _ (by rw [I]; rfl)) ⟨rfl,rfl,rfl,rfl,rfl,rfl,qZt⟩))
      exact  gT (d0:=81) rfl rfl I (pv (Q0h rfl underlying102 rfl sizeOf100 rfl) (gT (d0:=81) rfl rfl I (pv (Q0p rfl isAgg100 (ax.cell0 (i:=1) ⟨rfl,rfl⟩ (j:=6) rfl)) (gT (d0:=81) rfl rfl I (pv (Y4n rfl underlying100) (gT (d0:=81) rfl rfl I (pv (Q0h rfl underlying102 rfl sizeOf100 rfl) (gT (d0:=81) rfl rfl I (pv (Q0p rfl isAgg100 (ax.cell0 (i:=2) ⟨rfl,rfl⟩ (j:=6) rfl)) (gT (d0:=81) rfl rfl I (pv (Y4n rfl underlying100) (gT (d0:=81) rfl rfl I (pv (Q6y rfl rfl rfl) (pv (O6 rfl I rfl) (wlR (fun J=>hk J _ (by rw [I]; rfl)) ⟨rfl,rfl,rfl,rfl,rfl,rfl,qZt⟩)))))))))))))))
    refine cd hm ?_ ?_ <;> intro bI hm
    · exact zr hm ax
    refine pn ?_;refine sq2 (pn ?_);refine lpJ hm (fun aV o2 m a aE => ∃ T7 x4,JR (nf 127) g T6 bw a aE T7 (loopM aV m x4=some o2) [(0,sv a1 p0 c1),(1,sv a2 p1 c2),(5,iv x1),(6,pt K 0),(7,pt O 0),(8,iv x4)] [Y5 R,U5 K (Z9j D a3 c3 a4 c4 a5 c5 a6 c6 a7 c7),U5 O (Z9j E a8 c8 a9 c9 ar c10 au c11 av c12)]) (fun _ _ h=>je h (ax.sel [0,1,2] rfl)) ?_;rintro aV bz o2 _ _ _ aE ⟨T7,x4,J,bA,rfl,aX,_⟩;obtain⟨_,z2,rfl,hm,_⟩:=lrE bA bz;refine sq2 (sq2 (cd hm ?_ ?_)) <;> intro bJ hm
    · refine pn ?_;refine sq2 (blk (O7 hm (fun aY a ay => ∃(T8:_) (b7:_) (x5:Q8c) (aG:_) (c23:_) (b8:_) (x6:Q8c) (aI:_) (c24:_),JR (nf 127) g T7 aE a ay T8 (aY x5 x6=some z2) [(0,sv a1 p0 c1),(1,sv a2 p1 c2),(5,iv x1),(6,pt K 0),(7,pt O 0),(8,iv x4),(9,pt b7 0),(10,pt b8 0)] [Y5 R,U5 K (Z9j D a3 c3 a4 c4 a5 c5 a6 c6 a7 c7),U5 O (Z9j E a8 c8 a9 c9 ar c10 au c11 av c12),U5 b7 (X1q x5 aG c23),U5 b8 (X1q x6 aI c24)]∧Q64 aG c23 T8 ay x5.Body∧Q64 aI c24 T8 ay x6.Body) (fun aY hm => ?_) ?_))
      · refine rtS [0,1,0,0,1,0,1,0,0,1,2,2,2,2] [0,1,2,3,4,5,6,7,8,9,10,11,12,13] aX fun bK bL bC => ?_;have dd:KD [(10,[]),(11,[]),(12,[1,4,10,11]),(13,[1,4,6,9,10,11,12])]:=⟨qZt⟩;exact zr hm bC
      rintro _ ay ⟨T8,b7,x5,aG,c23,b8,x6,aI,c24,⟨J,hm,rfl,aJ,_⟩,_,_⟩;refine sq2 (pu ?_);refine pv (r_bn rfl rfl underlying4) (pu ?_);refine fkC (d:=118) (c:=((!(x5.Default == x6.Default)) || (x5.Num != x6.Num))) 6 [(0,sv a1 p0 c1),(1,sv a2 p1 c2),(5,iv x1),(6,pt K 0),(7,pt O 0),(8,iv x4),(9,pt b7 0),(10,pt b8 0)] rfl (fun hk => ?_) fun J => ?_
      · rcases Bool.eq_false_or_eq_true (!(x5.Default == x6.Default)) with W | W
        · exact  gF5 (d0:=112) rfl rfl (by rw [W]; rfl) (pv (O5 rfl W rfl) (wlR (fun J=>hk J _ (by rw [W]; rfl)) ⟨rfl,rfl,rfl,rfl,rfl,rfl,rfl,rfl,rfl,qZt⟩))
        exact  gT (d0:=112) rfl rfl W (pv (Q0h rfl underlying106 rfl sizeOf104 rfl) (gT (d0:=112) rfl rfl W (pv (Q0p rfl isAgg104 (aJ.cell0 (i:=3) ⟨rfl,rfl⟩ (j:=1) rfl)) (gT (d0:=112) rfl rfl W (pv (Q0h rfl underlying106 rfl sizeOf104 rfl) (gT (d0:=112) rfl rfl W (pv (Q0p rfl isAgg104 (aJ.cell0 (i:=4) ⟨rfl,rfl⟩ (j:=1) rfl)) (gT (d0:=112) rfl rfl W (pv (Q6y rfl rfl rfl) (pv (O6 rfl W rfl) (wlR (fun J=>hk J _ (by rw [W]; rfl)) ⟨rfl,rfl,rfl,rfl,rfl,rfl,rfl,rfl,rfl,qZt⟩)))))))))))
      have bM:Ctr Tryz.prog 12 (type_of% @hG.L3):=⟨@hG.L3,cf12⟩;exact zr hm aJ
    exact zr hm aX
  exact zr hm aN
theorem sp10 : ∀ n,Sp10 (Y8w n)
  | 0=>⟨(by unfold Z1t; intros; rename_i h; cases (show (none:Option _)=some _ from h))⟩
  | n+1=>⟨Y4x (sp10 n)⟩
theorem X3c:Z1t L3:=(sp10 NN).L3

theorem Z9e {p0:Z2u} {p1:Z2u} (hS:Sep g T0 w0 [Y5 R]) (h1:SlR Q0i T0 w0 (sv a1 p0.Globals c1) p0.Globals) (h2:SlR (rSl (E6 .u8)) T0 w0 (sv a2 p0.Data c2) p0.Data) (h3:SlR Q5y T0 w0 (sv a3 p0.Codes c3) p0.Codes) (h4:SlR Q0i T0 w0 (sv a4 p1.Globals c4) p1.Globals) (h5:SlR (rSl (E6 .u8)) T0 w0 (sv a5 p1.Data c5) p1.Data) (h6:SlR Q5y T0 w0 (sv a6 p1.Codes c6) p1.Codes) : ∀ r,Z4b p0 p1=some r →
    Calls Tryz.prog 7 #[Q82 a1 a2 a3 c1 c2 c3 p0,Q82 a4 a5 a6 c4 c5 c6 p1] w0 (Q17 T0 w0 g R r):=by
  intro r hm;refine enter Tryz.func7 rfl Tryz.ntmps7 rfl fun J => ?_;unfold Z4b at hm;refine sq2 (bX [sv a1 p0.Globals c1,sv a2 p0.Data c2,sv a3 p0.Codes c3,iv p0.Main] hS ?_);intro _ O _ aQ;refine bX [sv a4 p1.Globals c4,sv a5 p1.Data c5,sv a6 p1.Codes c6,iv p1.Main] aQ ?_;intro _ U _ aR;refine pn ?_;refine sq2 (sq2 (pu ?_));refine cB cf11 hm (Z2q (aR.bun [0,1,2] [] rfl) (h1.mono ch) (h4.mono ch)) ?_;rintro y1 _ T1 w3 _ ⟨rfl,ab,_⟩ hm;refine pu ?_;refine fkC (d:=23) (c:=((!y1) || ((List.length p0.Data:Int) != (List.length p1.Data:Int)))) 8 [(2,pt O 0),(3,pt U 0)] rfl (fun hk => ?_) fun J => ?_
  · rcases Bool.eq_false_or_eq_true (!y1) with D | D
    · exact  gF7 (d0:=15) rfl rfl (by rw [D]; rfl) (pv (O5 rfl D rfl) (wlR (fun J=>hk J _ (by rw [D]; rfl)) ⟨rfl,rfl,rfl,qZt⟩))
    exact  gT (d0:=15) rfl rfl D (pv (Q0h rfl underlying26 rfl sizeOf23 rfl) (gT (d0:=15) rfl rfl D (pv (Q0p rfl isAgg23 (ab.cell0 (i:=1) ⟨rfl,rfl⟩ (j:=1) rfl)) (gT (d0:=15) rfl rfl D (pv (Y4n rfl underlying23) (gT (d0:=15) rfl rfl D (pv (Q0h rfl underlying26 rfl sizeOf23 rfl) (gT (d0:=15) rfl rfl D (pv (Q0p rfl isAgg23 (ab.cell0 (i:=0) ⟨rfl,rfl⟩ (j:=1) rfl)) (gT (d0:=15) rfl rfl D (pv (Y4n rfl underlying23) (gT (d0:=15) rfl rfl D (pv (Q6y rfl rfl rfl) (pv (O6 rfl D rfl) (wlR (fun J=>hk J _ (by rw [D]; rfl)) ⟨rfl,rfl,rfl,qZt⟩)))))))))))))))
  refine pu ?_;refine fkC (d:=32) (c:=(((!y1) || ((List.length p0.Data:Int) != (List.length p1.Data:Int))) || ((List.length p0.Codes:Int) != (List.length p1.Codes:Int)))) 8 [(2,pt O 0),(3,pt U 0)] rfl (fun hk => ?_) fun J => ?_
  · rcases Bool.eq_false_or_eq_true ((!y1) || ((List.length p0.Data:Int) != (List.length p1.Data:Int))) with E | E
    · exact  gF7 (d0:=24) rfl rfl (by rw [E]; rfl) (pv (O5 rfl E rfl) (wlR (fun J=>hk J _ (by rw [E]; rfl)) ⟨rfl,rfl,rfl,qZt⟩))
    exact  gT (d0:=24) rfl rfl E (pv (Q0h rfl underlying26 rfl sizeOf24 rfl) (gT (d0:=24) rfl rfl E (pv (Q0p rfl isAgg24 (ab.cell0 (i:=1) ⟨rfl,rfl⟩ (j:=2) rfl)) (gT (d0:=24) rfl rfl E (pv (Y4n rfl underlying24) (gT (d0:=24) rfl rfl E (pv (Q0h rfl underlying26 rfl sizeOf24 rfl) (gT (d0:=24) rfl rfl E (pv (Q0p rfl isAgg24 (ab.cell0 (i:=0) ⟨rfl,rfl⟩ (j:=2) rfl)) (gT (d0:=24) rfl rfl E (pv (Y4n rfl underlying24) (gT (d0:=24) rfl rfl E (pv (Q6y rfl rfl rfl) (pv (O6 rfl E rfl) (wlR (fun J=>hk J _ (by rw [E]; rfl)) ⟨rfl,rfl,rfl,qZt⟩)))))))))))))))
  refine pu ?_;refine fkN (d:=39) (c:=((((!y1) || ((List.length p0.Data:Int) != (List.length p1.Data:Int))) || ((List.length p0.Codes:Int) != (List.length p1.Codes:Int))) || (p0.Main != p1.Main))) 6 [(2,pt O 0),(3,pt U 0)] rfl (fun hk => ?_) fun J => ?_
  · rcases Bool.eq_false_or_eq_true (((!y1) || ((List.length p0.Data:Int) != (List.length p1.Data:Int))) || ((List.length p0.Codes:Int) != (List.length p1.Codes:Int))) with I | I
    · exact  gF5 (d0:=33) rfl rfl (by rw [I]; rfl) (pv (O5 rfl I rfl) (wlR (fun J=>hk J _ (by rw [I]; rfl)) ⟨rfl,rfl,rfl,qZt⟩))
    exact  gT (d0:=33) rfl rfl I (pv (Q0h rfl underlying26 rfl sizeOf3 rfl) (gT (d0:=33) rfl rfl I (pv (Q0p rfl isAgg3 (ab.cell0 (i:=1) ⟨rfl,rfl⟩ (j:=3) rfl)) (gT (d0:=33) rfl rfl I (pv (Q0h rfl underlying26 rfl sizeOf3 rfl) (gT (d0:=33) rfl rfl I (pv (Q0p rfl isAgg3 (ab.cell0 (i:=0) ⟨rfl,rfl⟩ (j:=3) rfl)) (gT (d0:=33) rfl rfl I (pv (Q6y rfl rfl rfl) (pv (O6 rfl I rfl) (wlR (fun J=>hk J _ (by rw [I]; rfl)) ⟨rfl,rfl,rfl,qZt⟩)))))))))))
  refine cd hm ?_ ?_ <;> intro bB hm
  · exact sq2 (re hm (ab.sel [2] rfl))
  refine pn ?_;refine sq2 (sq2 (pn ?_));refine lpJ hm (fun ag o1 m a w4 => ∃ T2 x1,JR (nf 105) g T1 w3 a w4 T2 (loopM ag m x1=some o1) [(2,pt O 0),(3,pt U 0),(5,iv x1)] [U5 U [sv a4 p1.Globals c4,sv a5 p1.Data c5,sv a6 p1.Codes c6,iv p1.Main],U5 O [sv a1 p0.Globals c1,sv a2 p0.Data c2,sv a3 p0.Codes c3,iv p0.Main],Y5 R]) (fun _ _ h=>je h (ab.sel [0,1,2] rfl)) ?_;rintro ag au o1 ac _ _ w4 ⟨T2,x1,J,av,rfl,aj,_⟩;obtain⟨m1,z1,rfl,hm,aa⟩:=lrE av au;refine sq2 (sq2 (cd hm ?_ ?_)) <;> intro bC hm
  · refine pn ?_;refine sq2 (blk (sq2 ?_));obtain⟨u1,aU,hm⟩:=bindS hm;obtain⟨cs1,aV,_,hT1⟩:=ixS aj aU h2;obtain⟨_,c7,rfl,h7⟩:=Y8y aV;obtain⟨_,aX,hm⟩:=bindS hm;obtain⟨cs2,aY,_,hT2⟩:=ixS aj aX h5;obtain⟨_,c8,rfl,h8⟩:=Y8y aY;refine rqS aj (pu ?_);refine qv (fun _ hq=>r_cvs rfl (hq.slv h7.v) underlying51 underlying5 underlying9) (pu ?_);refine qv (fun _ hq=>r_cvs rfl (hq.slv h8.v) underlying51 underlying5 underlying9) (pn ?_);intro _ _ _ aI;refine cd hm ?_ ?_ <;> intro bD hm
    · refine sq2 (pn ?_);have hm:=Q0o hm aa ac;exact re hm (aI.sel [2] rfl)
    exact lg hm aa (aI.sel [0,1,2] rfl)
  have hm:=Q6d hm aa ac;refine pn ?_;refine sq2 (sq2 (pn ?_));refine lpJ hm (fun ag o1 m a w6 => ∃ T4 x2,JR (nf 105) g T2 w4 a w6 T4 (loopM ag m x2=some o1) [(2,pt O 0),(3,pt U 0),(6,iv x2)] [U5 U [sv a4 p1.Globals c4,sv a5 p1.Data c5,sv a6 p1.Codes c6,iv p1.Main],U5 O [sv a1 p0.Globals c1,sv a2 p0.Data c2,sv a3 p0.Codes c3,iv p0.Main],Y5 R]) (fun _ _ h=>je h (aj.sel [0,1,2] rfl)) ?_;rintro ag au o1 ac _ _ w6 ⟨T4,x2,J,av,rfl,aJ,_⟩;obtain⟨m1,z1,rfl,hm,aa⟩:=lrE av au;refine sq2 (sq2 (cd hm ?_ ?_)) <;> intro bE hm
  · refine pn ?_;refine sq2 (blk (O7 hm (fun aK a w7 => ∃(T5:_) (b5:_) (V:Q4d) (a9:_) (c9:_) (az:_) (c10:_) (b6:_) (W:Q4d) (aA:_) (c11:_) (aB:_) (c12:_),JR (nf 105) g T4 w6 a w7 T5 (aK V W=some z1) [(2,pt O 0),(3,pt U 0),(6,iv x2),(7,pt b5 0),(8,pt b6 0)] [U5 U [sv a4 p1.Globals c4,sv a5 p1.Data c5,sv a6 p1.Codes c6,iv p1.Main],U5 O [sv a1 p0.Globals c1,sv a2 p0.Data c2,sv a3 p0.Codes c3,iv p0.Main],Y5 R,U5 b5 (cGCode V a9 c9 az c10),U5 b6 (cGCode W aA c11 aB c12)]∧SlR Q0i T5 w7 (sv a9 V.Slots c9) V.Slots∧SlR B7 T5 w7 (sv az V.Body c10) V.Body∧SlR Q0i T5 w7 (sv aA W.Slots c11) W.Slots∧SlR B7 T5 w7 (sv aB W.Body c12) W.Body) (fun aK hm => ?_) ?_))
    · refine rtS [0,1,0,0,1,0,1,0,0,1,2,2,2,2] [0,1,2,3,4,5,6,7,8,9,10,11,12,13] aJ fun w8 bG an => ?_;obtain⟨_,ba,hm⟩:=bindS hm;obtain⟨cs3,be,_,hT3⟩:=ixS an ba h3;obtain⟨_,c13,_,c14,rfl,_,_⟩:=Q9x be;obtain⟨_,bf,hm⟩:=bindS hm;obtain⟨cs4,bg,_,hT4⟩:=ixS an bf h6;obtain⟨_,c15,_,c16,rfl,_,_⟩:=Q9x bg;refine tF [10,11] ?_;refine⟨?_,?_,qZt⟩
      · refine brW [11,12,13] [] ?_;refine oaL zv11 an ?_;intro w9 b9 bj aC;refine t1W [11] [12,13] [] ?_;refine oaL zv11 aC ?_;intro bk bl bm aD;refine t1W [12] [13] [1,1,0,0] ?_;refine osT 1 aD ?_;intro bn bo aE;refine t1W [13] [] [0,0] ?_;refine osT 0 aE ?_;intro bp bq aF;refine pu ?_;exact je hm (aF.sel [2,3,4,1,0] rfl)
      refine brW [10,12,13] [] ?_;refine oaL zv11 an ?_;intro w9 b9 bj aC;refine t1W [10] [12,13] [] ?_;refine oaL zv11 aC ?_;intro bk bl bm aD;refine t1W [12] [13] [1,1,0,0] ?_;refine osT 0 aD ?_;intro bn bo aE;refine t1W [13] [] [0,0] ?_;refine osT 1 aE ?_;intro bp bq aF;refine pu ?_;exact je hm (aF.sel [2,3,4,0,1] rfl)
    rintro _ w7 ⟨T5,b5,V,a9,c9,az,c10,b6,W,aA,c11,aB,c12,⟨J,hm,rfl,ao,_⟩,h9,bu,bv,bw⟩;refine sq2 (pu ?_);refine pv (r_bn rfl rfl underlying4) (pu ?_);refine fkC (d:=88) (c:=((!(V.Void == W.Void)) || (V.Params != W.Params))) 6 [(2,pt O 0),(3,pt U 0),(6,iv x2),(7,pt b5 0),(8,pt b6 0)] rfl (fun hk => ?_) fun J => ?_
    · rcases Bool.eq_false_or_eq_true (!(V.Void == W.Void)) with K | K
      · exact  gF5 (d0:=82) rfl rfl (by rw [K]; rfl) (pv (O5 rfl K rfl) (wlR (fun J=>hk J _ (by rw [K]; rfl)) ⟨rfl,rfl,rfl,rfl,rfl,rfl,qZt⟩))
      exact  gT (d0:=82) rfl rfl K (pv (Q0h rfl underlying32 rfl sizeOf3 rfl) (gT (d0:=82) rfl rfl K (pv (Q0p rfl isAgg3 (ao.cell0 (i:=3) ⟨rfl,rfl⟩ (j:=2) rfl)) (gT (d0:=82) rfl rfl K (pv (Q0h rfl underlying32 rfl sizeOf3 rfl) (gT (d0:=82) rfl rfl K (pv (Q0p rfl isAgg3 (ao.cell0 (i:=4) ⟨rfl,rfl⟩ (j:=2) rfl)) (gT (d0:=82) rfl rfl K (pv (Q6y rfl rfl rfl) (pv (O6 rfl K rfl) (wlR (fun J=>hk J _ (by rw [K]; rfl)) ⟨rfl,rfl,rfl,rfl,rfl,rfl,qZt⟩)))))))))))
    refine pu ?_
    rcases bc hm with ⟨bz,hm⟩ | ⟨bz,hm⟩
    · refine pn ?_;refine cnd (b:=true) rfl (fun _ => ?_) (fun h=>nomatch h);refine sq2 (pn ?_);have hm:=Q0o hm aa ac;exact re hm (ao.sel [2] rfl)
    refine pu ?_;refine cB cf11 hm (Z2q (ao.bun (Z1 0 5) [] rfl) h9 bv) ?_;rintro _ _ _ _ aM ⟨rfl,aN,_⟩ hm;refine pu ?_
    rcases bc hm with ⟨bA,hm⟩ | ⟨bA,hm⟩
    · refine pn ?_;refine cnd (b:=true) rfl (fun _ => ?_) (fun h=>nomatch h);refine sq2 (pn ?_);have hm:=Q0o hm aa ac;exact re hm (aN.sel [2] rfl)
    refine pu ?_;refine cB cf12 hm (X3c (aN.bun [0,1,2] [] rfl) (bu.mono aM) (bw.mono aM)) ?_;rintro _ _ _ _ _ ⟨rfl,aP,_⟩ hm;refine cd hm ?_ ?_ <;> intro bI hm
    · refine sq2 (pn ?_);have hm:=Q0o hm aa ac;exact re hm (aP.sel [2] rfl)
    exact lg hm aa (aP.sel [0,1,2] rfl)
  have hm:=Q6d hm aa ac;refine pn ?_;exact sq2 (re hm (aJ.sel [2] rfl))

instance : Ctr Tryz.prog 7 (type_of% @Z9e):=⟨@Z9e,cf7⟩
theorem Q7i {p0:List UInt8} (hS:Sep g T0 w0 [Y5 R]) (hG0:Gi T0 w0 0) : ∀ r,Q4v p0=some r →
    Calls Tryz.prog 4 #[Q16 p0.toArray] w0 (Q17 T0 w0 g R r):=by
  intro r hm;refine enter Tryz.func4 rfl Tryz.ntmps4 rfl fun J => ?_;unfold Q4v at hm;refine sq2 (pn ?_);refine sq2 (sq2 (cd hm ?_ ?_)) <;> intro aE hm
  · refine sq2 (pu ?_);refine cB cf6 hm (Z7j (hS.bun [0] [] rfl) hG0) ?_;rintro _ _ _ _ _ ⟨rfl,O,_⟩ hm;exact re hm (O.sel [0] rfl)
  refine pn ?_;refine sq2 (pu ?_);refine cB cf8 hm (Z4z (hS.bun [0] [] rfl) hG0) ?_;rintro _ _ _ _ _ ⟨a1,c1,_,c2,_,c3,rfl,U,h1,h2,h3,_⟩ hm;refine aL zv13 U ?_;intro _ _ _ V;refine aL [iv 0,iv 0] V ?_;intro _ _ _ W;refine sT 1 W ?_;intro _ _ aa;refine sT 0 aa ?_;intro _ _ I;refine pn ?_;refine sq2 (sq2 (cd hm ?_ ?_)) <;> intro aF hm
  · refine sq2 (pu ?_);refine cB cf6 hm (Z7j (I.bun [2] [] rfl) (hG0.mono ch)) ?_;rintro _ _ _ _ _ ⟨rfl,ab,_⟩ hm;exact re hm (ab.sel [0] rfl)
  refine pn ?_;refine sq2 (pu ?_);refine cB cf9 hm (Z2s (I.bun [1,2] [] rfl) (h1.mono ch) (h2.mono ch) (h3.mono ch)) ?_;rintro D _ _ _ _ ⟨_,c4,_,c5,_,c6,rfl,ac,h4,h5,h6,_⟩ hm;refine aL zv15 ac ?_;intro _ b3 _ ag;refine aL [iv 0,iv 0] ag ?_;intro _ b4 _ ai;refine sT 1 ai ?_;intro _ _ aj;refine sT 0 aj ?_;intro _ _ ak;refine pn ?_;refine sq2 (pu ?_);refine cB cf10 hm (Z8h (ak.bun [0,1,3] [] rfl) (h1.mono ch) (h2.mono ch) (h3.mono ch)) ?_;rintro _ _ _ _ _ ⟨_,c7,_,c8,_,c9,rfl,am,h7,h8,h9,_⟩ hm;refine cB cf9 hm (Z2s (am.bun [0,1,2] [] rfl) h7 h8 h9) ?_;rintro y6 _ _ _ _ ⟨_,c10,_,c11,_,c12,rfl,ar,au,av,aw,_⟩ hm;refine aL zv15 ar ?_;intro _ b5 _ ay;refine aL [iv 0,iv 0] ay ?_;intro _ _ _ az;refine sT 1 az ?_;intro _ _ aA;refine sT 0 aA ?_;intro _ _ E;refine pu ?_;refine nil (J3 [(6,pt b3 0),(7,pt b4 0),(8,iv D.2.2),(9,pt b5 0),(11,iv y6.2.2)] ⟨rfl,rfl,rfl,rfl,rfl,qZt⟩ fun J => ?_);refine sq2 (sq2 (pu ?_))
  rcases bc hm with ⟨aB,hm⟩ | ⟨aB,hm⟩
  · refine pn ?_;refine cnd (b:=true) rfl (fun _ => ?_) (fun h=>nomatch h);exact sq2 (re hm (E.sel [4] rfl))
  refine pu ?_;refine pv (F9 (by kernel_rfl) rfl (u := .agg #[iv 0,iv 0])) (pu ?_);refine pv (r_seqe rfl rfl (eq_41 D.2.1.Line D.2.1.Col 0 0)) (pu ?_);refine pv (r_bn rfl rfl underlying4) (cd hm ?_ ?_) <;> intro aG hm
  · exact sq2 (re hm (E.sel [4] rfl))
  refine pn ?_;refine sq2 (pu ?_);refine cB cf6 hm (Z7j (E.bun [1,3,4] [] rfl) (hG0.mono ch)) ?_;rintro _ _ _ _ _ ⟨rfl,K,_⟩ hm;refine pu ?_
  rcases bc hm with ⟨aC,hm⟩ | ⟨aC,hm⟩
  · refine pu ?_;refine cB cf7 hm (Z9e (K.bun [2] [] rfl) (h4.mono ch) (h5.mono ch) (h6.mono ch) (au.mono ch) (av.mono ch) (aw.mono ch)) ?_;rintro _ _ _ _ _ ⟨rfl,aD,_⟩ hm;exact re hm (aD.sel [0] rfl)
  exact re hm (K.sel [2] rfl)
end Go.Proofs.YtfffghclkmbopaaGreat
