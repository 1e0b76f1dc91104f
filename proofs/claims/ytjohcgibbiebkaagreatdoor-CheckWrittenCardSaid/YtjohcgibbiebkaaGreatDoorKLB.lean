/- Lemmas that hold for every program. -/
import Derived.Test.YtjohcgibbiebkaaGreatDoorKLA
import Derived.ProofKit
import Derived.Deep.Slices
import Derived.SizedLaws
import Derived.Lib.SmallJoins
import Derived.Recover
import Derived.WideLaws
import Derived.RangeFuncRecord
import Derived.RangeFuncCalls
import Derived.RangeFuncBound
import Derived.OrdersIn
import Derived.Laws.Concat
import Derived.Below
import Derived.HandedShaped
import Derived.Laws.Entries
import Derived.IntWalk
import Derived.Handed
import Derived.LaidMore
import Derived.LaidHandle
import Derived.MakeChecks
import Derived.Lib.LaidTab
import Derived.Stop.LaidErr
import Derived.SevenTiedAt
set_option linter.unusedVariables false
namespace Go.Proofs.YtjohcgibbiebkaaGreatDoor
open IntKind renaming wrap → qJ
open List renaming length_append → qW, length_cons → qY, mem_cons → qZ, range → qT, length_take → qE, getElem?_eq_getElem → kM, getD_eq_getElem?_getD → kP, getElem?_append_left → kR, getElem?_append_right → kS, getElem_mem → jT
open Nat renaming le_refl → qD, le_of_ble_eq_true → kN, lt_of_lt_of_le → jM
section
open Go.ChangeShapes Go.WideShapes

def allB(w:World):Nat->Prop:=fun k=>k<w.heap.size
def RdOk(P:Program)(t:TypeId){α:Type}(r:Rp α)(wf:α->Prop):Prop:=
 ∀(H:Type)(enc:TypeId×Value->H)(w:World)(base:Nat)(sp:Nat->Bool)(held:Bool)(fuel:Nat)(cs:Ab)(x:DataW H×List MemPlace),DataW.trod enc P w base sp held fuel t cs=some x->∃a,r.rp (allB w) w cs a/\wf a

theorem rdStr{P:Program}{t:TypeId}(ht:P.underlying t=some .string):RdOk P t L9 (fun s=>s.length<=maxLen):=by
 intro H enc w base sp held fuel cs x h;obtain⟨s,h1,_,h3⟩:=DataW.trod_string ht h;refine⟨s.data.toList,?_,by show s.data.toList.length<=maxLen;rw[Array.length_toList];exact h3⟩;show cs=_;rw[h1]

theorem open_arg{H α:Type}{enc:TypeId×Value->H}{P:Program}{w:World}{base:Nat}{sp:Nat->Bool}{held:Bool}{t:TypeId}{v:Value}{d:DataW H}{ps:List MemPlace}{r:Rp α}{wf:α->Prop}(h:DataW.Trod enc P w base sp held t v d ps)(hr:RdOk P t r wf):
 ∃a,r.rp (allB w) w v.cells.toList a/\wf a:=let⟨_,h⟩:=h;hr H enc w base sp held _ _ _ h

theorem start(W:World):Sep W (allB W) W [empA]:=by
 refine⟨rfl,rfl,rfl,fun _ h=>h,fun _ _=>False,⟨fun i hi=>?_,fun i j k _ _ h=>h.elim⟩,fun _ _ _ h=>h.elim⟩;obtain rfl:i=0:=by simp only[J8]at hi;omega
 exact fun _ h=>h
theorem startL(W:World):Sep W (allB W) W [X0 []]:=by
 refine⟨rfl,rfl,rfl,fun _ h=>h,fun _ _=>False,⟨fun i hi=>?_,fun i j k _ _ h=>h.elim⟩,fun _ _ _ h=>h.elim⟩;obtain rfl:i=0:=by simp only[J8]at hi;omega
 exact⟨fun _ _=>False,⟨fun i hi=>absurd hi (Nat.not_lt_zero i),fun i j k _ _ h=>h.elim⟩,fun k=>⟨fun h=>h.elim,fun⟨i,hi,_⟩=>absurd hi (Nat.not_lt_zero i)⟩⟩
theorem ret_true{P:Program}{f:FuncId}{args:Array Value}{W:World}{b:Bool}{G:List X1}(h:Calls P f args W (J6 (allB W) W fun T w v=>v= .bool b/\Sep W T w G/\True))(hb:b=true):
 Calls P f args W fun e W'=>e= .returned (.bool true)/\Go.RowKit.Below W.heap.size W W':=by
 subst hb;refine h.mono ?_;rintro e W' ⟨v,rfl,T',hI,rfl,hS,_⟩;refine⟨rfl,hS.os,hS.tape,hS.output,?_,fun k hk=>(hI k hk).2⟩
 rcases Nat.eq_zero_or_pos W.heap.size with h0|h0
 . omega
 . have:=hS.lt _ (hI (W.heap.size-1) (by show W.heap.size-1<W.heap.size;omega)).1;omega
end
def mkP{α:Type}:List Nat->List α->List α
 |0::b,_::l=>mkP b l
 |(_+1)::b,x::l=>x::mkP b l
 |_::_,[]=>[]
 |[],l=>l
abbrev Z4(a n:Nat):List Nat:=List.range' a n
structure Kp(B:Prop):Prop where
 out:B
theorem atH{A:X1}{L:List X1}:AtR (A::L) 0 A:=⟨by simp[J8],rfl⟩
theorem atT{A B:X1}{L:List X1}{i:Nat}(h:AtR L i A):AtR (B::L) (i+1) A:=
 ⟨by have:=kN h.lt;simp only[J8];exact Nat.ble_eq_true_of_le (by omega),h.at_⟩
theorem atS{L:List X1}{i:Nat}{A:X1}(h:AtR L i A:=by(repeat(first|exact atH|apply atT));done):AtR L i A:=h
theorem cellsAt.get0{w:World}{b off:Nat}{cs:Ab}{u:Value}(h:cellsAt w b off cs)(hj:cs[0]?=some u):w.cell? ⟨b,off,none⟩=some u:=by simpa using h 0 u hj
theorem cellsAt.sameT{T T':TP}{w w':World}{b off:Nat}{cs:Ab}(hc:cellsAt w b off cs)(hT:T b)(i:Im T w T' w'):cellsAt w' b off cs:=hc.same (i b hT).2
theorem Sep.cellL{g w:World}{T:TP}{G:List X1}{i b o j:Nat}{H:Ab->X1}{cs:Ab}{v:Value}(hL:Ln b o H)(h:Sep g T w G)(hi:AtR G i (H cs))(hj:cs[j]?=some v):w.cell? ⟨b,o+j,none⟩=some v:=h.cellB hi hL hj
theorem Sep.cellL0{g w:World}{T:TP}{G:List X1}{i b o:Nat}{H:Ab->X1}{cs:Ab}{v:Value}(hL:Ln b o H)(h:Sep g T w G)(hi:AtR G i (H cs))(hj:cs[0]?=some v):w.cell? ⟨b,o,none⟩=some v:=h.cellB hi hL hj
theorem Sep.cellsA{g w:World}{T:TP}{G:List X1}{i b:Nat}{cs:Ab}(h:Sep g T w G)(hi:AtR G i (K7 b cs)):cellsAt w b 0 cs:=h.cells0 hi (by rw[List.drop_zero,List.take_length])
theorem Sep.cellsP{g w:World}{T:TP}{G:List X1}{i b o:Nat}{H:Ab->X1}{cs:Ab}(hL:Ln b o H)(h:Sep g T w G)(hi:AtR G i (H cs)):cellsAt w b o cs:=h.cellsB hi hL
section
variable{P:Program}{n:NF}{J:Nat->Value}{L:List (Nat×Value)}{w:World}{d:Nat}{ty:TypeId}{pos:String}{aft:Ag}{x:Operand}{a b c e:Value}{l:Ab}
theorem r_ex0(hx:ev n J L x= .tuple ⟨a::l⟩):(execOp (ev n J L) ⟨some d,.extract x 0,ty,pos,aft,none⟩).run P w= .ok (.value a) w:=r_ex hx rfl
theorem r_ex1(hx:ev n J L x= .tuple ⟨a::b::l⟩):(execOp (ev n J L) ⟨some d,.extract x 1,ty,pos,aft,none⟩).run P w= .ok (.value b) w:=r_ex hx rfl
theorem r_ex2(hx:ev n J L x= .tuple ⟨a::b::c::l⟩):(execOp (ev n J L) ⟨some d,.extract x 2,ty,pos,aft,none⟩).run P w= .ok (.value c) w:=r_ex hx rfl
theorem r_ex3(hx:ev n J L x= .tuple ⟨a::b::c::e::l⟩):(execOp (ev n J L) ⟨some d,.extract x 3,ty,pos,aft,none⟩).run P w= .ok (.value e) w:=r_ex hx rfl
theorem rv0:RVs P n J L w [] []:=trivial
theorem rvT{t:Tmp}{v:Value}{rs:List ResultVar}{vs:Ab}(h1:ev n J L (.tmp t)=v)(h2:RVs P n J L w rs vs):RVs P n J L w (.tmp t::rs) (v::vs):=⟨h1,h2⟩
theorem rvC{t:Tmp}{ty:TypeId}{b:Nat}{v:Value}{rs:List ResultVar}{vs:Ab}(hx:ev n J L (.tmp t)= .pointer (some ⟨b,0,none⟩))(ht:∀w,(isAgg ty).run P w= .ok false w)(hb:Box w b [v])(h2:RVs P n J L w rs vs):RVs P n J L w (.cell t ty::rs) (v::vs):=⟨rv1 hx ht hb,h2⟩
theorem rvG{t:Tmp}{ty:TypeId}{b sz:Nat}{cs vs:Ab}{rs:List ResultVar}(hx:ev n J L (.tmp t)= .pointer (some ⟨b,0,none⟩))(ht:∀w,(isAgg ty).run P w= .ok true w)(hs:∀w,(sizeOf ty).run P w= .ok sz w)(hb:Box w b cs)(hl:cs.length=sz)(h2:RVs P n J L w rs vs):RVs P n J L w (.cell t ty::rs) (.agg cs.toArray::vs):=⟨rvS hx ht hs hl hb,h2⟩
theorem Y2d{M:List (Nat×Value)}(h:Has n J L M:=by repeat(first|exact trivial|(apply And.intro rfl))):env n J L=env n (lk J L) M:=X1d h
end
abbrev JR(m:NF)(g:World)(T:TP)(w:World)(a:Act)(w1:World)(T1:TP)(P:Prop)(es:List (Nat×Value))(G:List X1):Prop:=∃J,P/\a=env m J es/\Sep g T1 w1 G/\Im T w T1 w1
theorem Y7o{α:Type}{r:Rp α}{T T':TP}{w w':World}{v:Value}{l:List α}(h:SlR r T w v l)(i:Im T w T' w'):SlR r T' w' v l:=h.mono i
theorem Sep.sl{g w:World}{T:TP}{G:List X1}{α:Type}{r:Rp α}{e:TypeId}{a:OA}{m c:Nat}{l:List α}(hS:Sep g T w G)(q:Nat)(hi:AtR G q (F5 r e (.slice a m c) l):=by exact⟨rfl,rfl⟩):
 ∃T',Im T w T' w/\Sep g T' w (A9 G q empA)/\SlR r T' w (.slice a m c) l/\m=l.length:=by
 obtain⟨T',i,S,h⟩:=hS.seal q hi;exact⟨T',i,S,h,h.len⟩
section
variable{P:Program}{l:Ah}{fl:List Nat}{Q:Ac}{pd:List (Nat×Value)}{i:Nat}{is:List Nat}{n:NF}{J:Nat->Value}{L:List (Nat×Value)}{w:World}
 {d:Nat} {ty:TypeId} {pos:String} {aft:Ag} {op:Op} {v:Value} {gd:Option (Nat×Bool)}
theorem s0a(hf:fl.getD i 2=0)(ho:l[i]?=some ⟨some d,op,ty,pos,aft,gd⟩)(hw:Wt l n J L gd)(h:∀w,(execOp (ev n J L) ⟨some d,op,ty,pos,aft,none⟩).run P w= .ok (.value v) w)
 (k:H8 P l fl Q pd is (env n J ((d,v)::L)) w):H8 P l fl Q pd (i::is) (env n J L) w:=s0 ho hw h hf k
structure Kl(l:List (Nat×Value)):Prop where
 out:True
theorem s2k{dst:Option Tmp}{pd2:List (Nat×Value)}(_:Kl pd2)(ho:l[i]?=some ⟨dst,op,ty,pos,aft,gd⟩)(hw:Wt l n J L gd)(hf:fl.getD i 2=2)(hp:(pd.filter fun p=>!((Q9w l).getD i 0).testBit p.1)=pd2)
 (h:Oper.wp P ⟨dst,op,ty,pos,aft,none⟩ (env n J L) w (fun a' w'=>Z2k P l pd2 a' w'/\H8 P l fl Q pd2 is a' w') Q):H8 P l fl Q pd (i::is) (env n J L) w:=s2 pd2 ho hw hf hp h
structure KN(l:List Nat):Prop where
 out:True
theorem s2K{dst:Option Tmp}{ks:List Nat}(_:KN ks)(ho:l[i]?=some ⟨dst,op,ty,pos,aft,gd⟩)(hw:Wt l n J L gd)(hf:fl.getD i 2=2)(hp:(pd.filter fun p=>!((Q9w l).getD i 0).testBit p.1)=mkP ks pd)
 (h:Oper.wp P ⟨dst,op,ty,pos,aft,none⟩ (env n J L) w (fun a' w'=>Z2k P l (mkP ks pd) a' w'/\H8 P l fl Q (mkP ks pd) is a' w') Q):H8 P l fl Q pd (i::is) (env n J L) w:=s2 _ ho hw hf hp h
theorem twK{m:Nat}{js:List Nat}(_:KN js)(ho:(l[i]?).isSome=true)(hwt:∀o,l[i]?=some o->Q7z l o (env n J L)=true)(hf:fl.getD i 2=2)(hjs:js.all (fun j=>nzB fl j)=true)(hB:twB l fl (Q9w l) (i::is) js=true)
 (h:Brs P l fl Q m pd (i::is) (env n J L) w js):Q1o P l fl Q (m+1) pd (i::is) (env n J L) w:=tw js ho hwt hf hjs hB h
theorem brK{m j:Nat}{R R' ks:List Nat}{dst:Option Tmp}(_:KN R')(_:KN ks)(ho:l[j]?=some ⟨dst,op,ty,pos,aft,gd⟩)(hb:brB R R' j=true)(hq:Z7v l fl (Q9w l) R'=true)(hw:Wt l n J L gd)
 (hp:(pd.filter fun p=>!((Q9w l).getD j 0).testBit p.1)=mkP ks pd)
 (h:Oper.wp P ⟨dst,op,ty,pos,aft,none⟩ (env n J L) w (fun a' w'=>Z2k P l (mkP ks pd) a' w'/\Q1o P l fl Q m (mkP ks pd) R' a' w') Q):Br P l fl Q m pd R (env n J L) w j:=br R' _ ho hb hq hw hp h
theorem s1a(hf:fl.getD i 2=1)(ho:l[i]?=some ⟨some d,op,ty,pos,aft,gd⟩)(hw:Wt l n J L gd)(h:(execOp (ev n J L) ⟨some d,op,ty,pos,aft,none⟩).run P w= .ok (.value v) w)
 (k:H8 P l fl Q ((i,v)::pd) is (env n J ((d,v)::L)) w):H8 P l fl Q pd (i::is) (env n J L) w:=s1 ho hw h hf k
theorem t0a{m kk:Nat}(hk:kk=m+1)(hf:fl.getD i 2=0)(ho:l[i]?=some ⟨some d,op,ty,pos,aft,gd⟩)(hw:Wt l n J L gd)(h:∀w,(execOp (ev n J L) ⟨some d,op,ty,pos,aft,none⟩).run P w= .ok (.value v) w)
 (k:Q1o P l fl Q m pd is (env n J ((d,v)::L)) w):Q1o P l fl Q kk pd (i::is) (env n J L) w:=by subst hk;exact t0 ho hw h hf k
theorem t1a{m kk:Nat}(hk:kk=m+1)(hf:fl.getD i 2=1)(ho:l[i]?=some ⟨some d,op,ty,pos,aft,gd⟩)(hw:Wt l n J L gd)(h:(execOp (ev n J L) ⟨some d,op,ty,pos,aft,none⟩).run P w= .ok (.value v) w)
 (k:Q1o P l fl Q m ((i,v)::pd) is (env n J ((d,v)::L)) w):Q1o P l fl Q kk pd (i::is) (env n J L) w:=by subst hk;exact t1 ho hw h hf k
theorem tUa{m kk:Nat}(hk:kk=m+1)(ho:l[i]?=some ⟨some d,op,ty,pos,aft,gd⟩)(hw:Wf l n J L gd)(hq:Z7v l fl (Q9w l) is=true)(k:Q1o P l fl Q m pd is (env n J ((d,undef)::L)) w):Q1o P l fl Q kk pd (i::is) (env n J L) w:=by subst hk;exact tU ho hw hq k
theorem sUa(ho:l[i]?=some ⟨some d,op,ty,pos,aft,gd⟩)(hw:Wf l n J L gd)(k:H8 P l fl Q pd is (env n J ((d,undef)::L)) w):H8 P l fl Q pd (i::is) (env n J L) w:=sU ho hw k
end
def eBk(v:Value):Nat:=match v with
 | .slice (some a) _ _=>a.block
 |_=>0
def eOf(v:Value)(i:Int)(sz:Nat):Nat:=match v with
 | .slice (some a) _ _=>a.off+i.toNat*sz
 |_=>0
section
variable{α:Type}{r:Rp α}{T:TP}{w:World}{v:Value}{l:List α}{i:Int}{u:α}{sz j:Nat}{cs:Ab}{c:Value}
theorem SlV.ixc(h:SlV r T w v l)(hi:idx l i=some u)(hz:r.sz=sz):
 ∃cs k cap,v= .slice (some ⟨eBk v,k,none⟩) l.length cap/\0<=i/\i<l.length/\eOf v i sz=k+i.toNat*sz/\r.rp T w cs u/\cellsAt w (eBk v) (eOf v i sz) cs:=by
 obtain⟨b,off,cs,k,cap,rfl,h0,h1,rfl,hr,hc⟩:=h.ixq hi hz;exact⟨cs,k,cap,rfl,h0,h1,rfl,hr,hc⟩
theorem SlV.ixcS(h:SlV r T w v l)(hi:idx l i=some u)(hz:r.sz=sz):∃cs,r.rp T w cs u/\cellsAt w (eBk v) (eOf v i sz) cs:=by
 obtain⟨cs,_,_,_,_,_,_,hr,hc⟩:=h.ixc hi hz;exact⟨cs,hr,hc⟩
theorem SlR.ixcT(h:SlR r T w v l)(hi:idx l i=some u)(hz:r.sz=sz):∃cs,r.rp T w cs u/\cellsAt w (eBk v) (eOf v i sz) cs/\T (eBk v):=by
 obtain⟨b,off,cs,k,cap,rfl,h0,h1,rfl,hr,hc,hT⟩:=h.ixT hi hz;exact⟨cs,hr,hc,hT⟩
theorem ixS{g w0:World}{G:List X1}{T0:TP}(hS:Sep g T w G)(hi:idx l i=some u)(h:SlR r T0 w0 v l)(hm:Im T0 w0 T w:=by exact ch)(hz:r.sz=sz:=by exact rfl):∃cs,r.rp T w cs u/\cellsAt w (eBk v) (eOf v i sz) cs/\T (eBk v):=(h.mono hm).ixcT hi hz
theorem elS(h:SlV r T w v l)(hi:idx l i=some u)(hz:r.sz=sz)(ho:∀c0,r.rp T w c0 u->c0=cs):cellsAt w (eBk v) (eOf v i sz) cs:=by
 obtain⟨c0,k,cap,_,_,_,_,hr,hc⟩:=h.ixc hi hz;rw[ho c0 hr]at hc;exact hc
theorem elG(h:SlV r T w v l)(hi:idx l i=some u)(hz:r.sz=sz)(ho:∀c0,r.rp T w c0 u->c0=cs)(hj:cs[j]?=some c):w.cell? ⟨eBk v,eOf v i sz+j,none⟩=some c:=(elS h hi hz ho).get hj
theorem elG0(h:SlV r T w v l)(hi:idx l i=some u)(hz:r.sz=sz)(ho:∀c0,r.rp T w c0 u->c0=cs)(hj:cs[0]?=some c):w.cell? ⟨eBk v,eOf v i sz,none⟩=some c:=(elS h hi hz ho).get0 hj
theorem Y5z{l:List α}(h:SlV r T w v l:=by first|exact(Sep.own (by assumption) atS).v|exact SlR.v (by assumption)|exact SlR.v (Y7o (by assumption) ch)):SlV r T w v l:=h
end
section
variable{P:Program}{n:NF}{J:Nat->Value}{L:List (Nat×Value)}{w:World}{d:Nat}{ty t:TypeId}{pos:String}{aft:Ag}{x y:Operand}
theorem r_ixc{α:Type}{r:Rp α}{T:TP}{w1:World}{a:OA}{m c sz:Nat}{l:List α}{i:Int}{ik:IntKind}{u:α}{e:TypeId}(hx:ev n J L x= .slice a m c)(hy:ev n J L y= .int ik i)(ht:P.underlying t=some (.slice e))(hs:∀w,(sizeOf e).run P w= .ok sz w)
 (h:SlV r T w1 (.slice a m c) l) (hz:r.sz=sz) (hi:idx l i=some u):
 (execOp (ev n J L) ⟨some d,.indexAddr t x y,ty,pos,aft,none⟩).run P w= .ok (.value (.pointer (some ⟨eBk (.slice a m c),eOf (.slice a m c) i sz,none⟩))) w:=by
 obtain⟨_,k,cap,hv,h0,h1,ho,_⟩:=h.ixc hi hz;exact r_ixe (hx.trans hv) hy ht hs h0 h1 ho
theorem r_ixv{α:Type}{r:Rp α}{g w1:World}{T:TP}{G:List X1}{q sz:Nat}{H:X1}{v:Value}{l:List α}{i:Int}{ik:IntKind}{u:α}{e:TypeId}(hV:Vw H r v l)(hS:Sep g T w1 G)(hA:AtR G q H)(hx:ev n J L x=v)(hy:ev n J L y= .int ik i)(ht:P.underlying t=some (.slice e))(hs:∀w,(sizeOf e).run P w= .ok sz w)
 (hz:r.sz=sz) (hi:idx l i=some u):
 (execOp (ev n J L) ⟨some d,.indexAddr t x y,ty,pos,aft,none⟩).run P w= .ok (.value (.pointer (some ⟨eBk v,eOf v i sz,none⟩))) w:=by
 obtain⟨_,k,cap,hv,h0,h1,ho,_⟩:=(hS.view hA hV).ixc hi hz;exact r_ixe (hx.trans hv) hy ht hs h0 h1 ho
theorem r_lnW{α:Type}{r:Rp α}{l:List α}{e:TypeId}{T:TP}{w1:World}{a:OA}{m c:Nat}(hx:ev n J L x= .slice a m c)(ht:P.underlying t=some (.slice e))(h:SlV r T w1 (.slice a m c) l):
 (execOp (ev n J L) ⟨some d,.call ⟨.builtin .len,#[x],#[t]⟩,ty,pos,aft,none⟩).run P w= .ok (.value (.int .i64 (l.length:Int))) w:=r_lnV hx h ht
theorem r_faP{b o k sz f:Nat}{fs:Array Field}{fd:Field}(hx:ev n J L x= .pointer (some ⟨b,o+k,none⟩))(ht:P.underlying t=some (.struct fs))(hf:fs[f]?=some fd)(hs:∀w,(sizeOf fd.type).run P w= .ok sz w)(hz:(sz==0)=false):
 (execOp (ev n J L) ⟨some d,.fieldAddr t x f,ty,pos,aft,none⟩).run P w= .ok (.value (.pointer (some ⟨b,o+(k+fd.offset),none⟩))) w:=by
 rw[<-Nat.add_assoc];exact Y2x hx ht hf hs hz
theorem r_ixf{b off k len cap sz:Nat}{ik:IntKind}{i:Int}{e:TypeId}(ho:off=k+i.toNat*sz)(hy:ev n J L y= .int ik i)(ht:P.underlying t=some (.slice e))(hs:∀w,(sizeOf e).run P w= .ok sz w)(hx:ev n J L x= .slice (some ⟨b,k,none⟩) len cap)(h0:0<=i)(h1:i<len):
 (execOp (ev n J L) ⟨some d,.indexAddr t x y,ty,pos,aft,none⟩).run P w= .ok (.value (.pointer (some ⟨b,off,none⟩))) w:=r_ixe hx hy ht hs h0 h1 ho
theorem r_ldE{b off sz:Nat}{cs:Ab}(hx:ev n J L x= .pointer (some ⟨b,off,none⟩))(ht:∀w,(isAgg t).run P w= .ok true w)(hs:∀w,(sizeOf t).run P w= .ok sz w)(hc:cellsAt w b off cs)(hl:cs.length=sz):
 (execOp (ev n J L) ⟨some d,.load t x,ty,pos,aft,none⟩).run P w= .ok (.value (.agg cs.toArray)) w:=Y9g hx ht hs hl hc
theorem r_ldP{g:World}{T:TP}{G:List X1}{q b off sz:Nat}{cells cs:Ab}(hx:ev n J L x= .pointer (some ⟨b,off,none⟩))(ht:∀w,(isAgg t).run P w= .ok true w)(hs:∀w,(sizeOf t).run P w= .ok sz w){w1:World}(hS:Sep g T w1 G)(hi:AtR G q (K7 b cells))(he:(cells.drop off).take sz=cs)(hl:cs.length=sz):
 (execOp (ev n J L) ⟨some d,.load t x,ty,pos,aft,none⟩).run P w1= .ok (.value (.agg cs.toArray)) w1:=by
 refine Y9g hx ht hs hl (hS.cells0 (o:=off) hi (by rw[hl];exact he))
theorem r_ldQ{g:World}{T:TP}{G:List X1}{q b o k sz:Nat}{H:Ab->X1}{cells cs:Ab}(hL:Ln b o H)(hx:ev n J L x= .pointer (some ⟨b,o+k,none⟩))(ht:∀w,(isAgg t).run P w= .ok true w)(hs:∀w,(sizeOf t).run P w= .ok sz w){w1:World}(hS:Sep g T w1 G)(hi:AtR G q (H cells))(he:(cells.drop k).take sz=cs)(hl:cs.length=sz):
 (execOp (ev n J L) ⟨some d,.load t x,ty,pos,aft,none⟩).run P w1= .ok (.value (.agg cs.toArray)) w1:=
 Y9g hx ht hs hl ((hS.cellsB hi hL).sub k (by rw[hl];exact he))
theorem Y4u{KK:Act->World->Prop}{Q:Ac}{g:World}{T:TP}{G:List X1}{q m c j sz:Nat}{α:Type}{r:Rp α}{e:TypeId}{l:List α}{u u':α}{i:Int}{a:OA}{v:Value}{cs:Ab}(hS:Sep g T w G)(hi:AtR G q (F5 r e (.slice a m c) l))(hu:idx l i=some u)
 (hx:ev n J L x= .pointer (some ⟨eBk (.slice a m c),eOf (.slice a m c) i r.sz+j,none⟩)) (hy:ev n J L y=v) (hv:v.cells.toList=cs) (hs:∀w,(sizeOf t).run P w= .ok sz w) (hl:cs.length=sz) (h1:cs.all Value.oneCell'=true)
 (hfit:Nat.ble (j+cs.length) r.sz=true) (hup:∀c0,r.rp T w c0 u->r.rp T w (Q0e c0 j cs) u')
 (k:∀w',Im T w T w'->Sep g T w' (A9 G q (F5 r e (.slice a m c) (l.set i.toNat u')))->KK (env n J L) w'):
 Oper.wp P ⟨none,.store t x y,ty,pos,aft,none⟩ (env n J L) w KK Q:=by
 obtain⟨_,k0,cap,hsv,_,_,ho,_⟩:=(hS.own hi).v.ixc hu rfl;exact stO hS hi hsv (Q2d hu).2.2 ho hx hy hv hs hl h1 hfit hup k
end
section
variable{P:Program}{ops:Array Oper}{Q:Ac}{rest:Ah}{n:NF}{J:Nat->Value}{L:List (Nat×Value)}{w:World}
 {d:Nat} {ty:TypeId} {pos:String} {aft:Ag} {T:TP} {f:FuncId} {fo:Operand} {ca:Array Value} {args:Ab} {xs:Array Operand} {tys:Array TypeId} {R:(TP)->World->Value->Prop}
theorem wcS(hok:Z2m P f)(hc:Calls P f args.toArray w (J6 T w R))(k:∀v T' w',Im T w T' w'->R T' w' v->wpList P ops Q rest (env n J ((d,v)::L)) w')
 (hf:ev n J L fo= .func (.func f) #[] ca:=by exact rfl) (ha:xs.toList.map (ev n J L)++ca.toList=args:=by exact rfl):
 wpList P ops Q (⟨some d,.call ⟨.value fo,xs,tys⟩,ty,pos,aft,none⟩::rest) (env n J L) w:=wl rfl (calS hok hf hc ha k)
theorem wcN(hok:Z2m P f)(hc:Calls P f args.toArray w (J6 T w R))(k:∀v T' w',Im T w T' w'->R T' w' v->wpList P ops Q rest (env n J L) w')
 (hf:ev n J L fo= .func (.func f) #[] ca:=by exact rfl) (ha:xs.toList.map (ev n J L)++ca.toList=args:=by exact rfl):
 wpList P ops Q (⟨none,.call ⟨.value fo,xs,tys⟩,ty,pos,aft,none⟩::rest) (env n J L) w:=wl rfl (calN hok hf hc ha k)
structure Kq(q:Nat):Prop where
 out:True
structure Kv(l:Ab):Prop where
 out:True
section
variable{G:List X1}{g:World}{q b j sz o:Nat}{cur cs zs:Ab}{x y:Operand}{t:TypeId}{v z:Value}{H:Ab->X1}
theorem wst(_:Kq q)(hS:Sep g T w G)(hs:∀w,(sizeOf t).run P w= .ok sz w)(k:∀w',Im T w T w'->Sep g T w' (A9 G q (K7 b (Q0e cur j cs)))->wpList P ops Q rest (env n J L) w')
 (hi:AtR G q (K7 b cur):=by exact⟨rfl,rfl⟩) (hx:ev n J L x= .pointer (some ⟨b,j,none⟩):=by exact rfl) (hy:ev n J L y=v:=by exact rfl) (hv:v.cells.toList=cs:=by exact rfl) (hl:cs.length=sz:=by exact rfl) (h1:cs.all Value.oneCell'=true:=by exact rfl) (hfit:Nat.ble (j+cs.length) cur.length=true:=by exact rfl):
 wpList P ops Q (⟨none,.store t x y,ty,pos,aft,none⟩::rest) (env n J L) w:=wl rfl (st0B hS hi hx hy hv hs hl h1 hfit k)
theorem wsb(_:Kq q)(_:Kq j)(hL:Ln b o H)(hS:Sep g T w G)(hs:∀w,(sizeOf t).run P w= .ok sz w)(k:∀w',Im T w T w'->Sep g T w' (A9 G q (H (Q0e cur j cs)))->wpList P ops Q rest (env n J L) w')
 (hi:AtR G q (H cur):=by exact⟨rfl,rfl⟩) (hx:ev n J L x= .pointer (some ⟨b,o+j,none⟩):=by exact rfl) (hy:ev n J L y=v:=by exact rfl) (hv:v.cells.toList=cs:=by exact rfl) (hl:cs.length=sz:=by exact rfl) (h1:cs.all Value.oneCell'=true:=by exact rfl) (hfit:Nat.ble (j+cs.length) cur.length=true:=by exact rfl):
 wpList P ops Q (⟨none,.store t x y,ty,pos,aft,none⟩::rest) (env n J L) w:=wl rfl (stB hS hi hL hx hy hv hs hl h1 hfit k)
theorem wal(_:Kv zs)(hS:Sep g T w G)(hz:∀w,(zeroValue t).run P w= .ok z w)(k:∀w' b,Im T w T w'->Sep g T w' (K7 b zs::G)->wpList P ops Q rest (env n J ((d,.pointer (some ⟨b,0,none⟩))::L)) w')
 (hc:z.cells.toList=zs:=by exact rfl):wpList P ops Q (⟨some d,.alloc t,ty,pos,aft,none⟩::rest) (env n J L) w:=wl rfl (alS hz hc hS k)
theorem wbs{α:Type}{r:Rp α}{l:List α}{css:List (Ab)}{e:TypeId}{len:Nat}{parts:Array (Nat×Operand)}{cells:Array Value}(hS:Sep g T w G)(ha:Y2e r T w css l)(ht:P.underlying t=some (.slice e))(hs:∀w,(sizeOf e).run P w= .ok sz w)(hz:∀w,(zeroValue e).run P w= .ok z w)
 (k:∀w' a m c,Im T w T w'->Sep g T w' (F5 r e (.slice a m c) l::G)->wpList P ops Q rest (env n J ((d,.slice a m c)::L)) w')
 (hc:css.flatten.toArray=cells:=by exact rfl) (hl:l.length=len:=by exact rfl) (hle:Nat.ble (len*sz) 16777216=true:=by exact rfl) (h0:Nat.ble 1 (len*sz)=true:=by exact rfl)
 (hf:Instr.fill (fun i=>some (i*sz,sz)) ((Array.range (len*sz)).map (z.cells[·%z.cells.size]!)) (parts.toList.map fun p=>(p.1,ev n J L p.2))=some cells:=by kernel_rfl) (hr:r.sz=sz:=by exact rfl):
 wpList P ops Q (⟨some d,.buildSlice t len parts,ty,pos,aft,none⟩::rest) (env n J L) w:=wl rfl (bsS hS ht hs hz hle h0 hf (by subst hc;rfl) ha hl hr k)
theorem wao{α:Type}{r:Rp α}{e:TypeId}{l us:List α}{m' m0 c0 m1 c1:Nat}{a0 a1:OA}(_:Kq q)(hS:Sep g T w G)(h2:SlV r T w (.slice a1 m1 c1) us)(ht:P.underlying t=some (.slice e))(he:Q1g P e r.sz)(hroom:m'<=8589934592)
 (k:∀w' a m c,Im T w T w'->Sep g T w' (A9 G q (F5 r e (.slice a m c) (l++us)))->wpList P ops Q rest (env n J ((d,.slice a m c)::L)) w')
 (hx:ev n J L x= .slice a0 m0 c0:=by exact rfl) (hy:ev n J L y= .slice a1 m1 c1:=by exact rfl) (hi:AtR G q (F5 r e (.slice a0 m0 c0) l):=by exact⟨rfl,rfl⟩) (hm:l.length+us.length=m':=by exact rfl):
 wpList P ops Q (⟨some d,.call ⟨.builtin .append,#[x,y],#[t,t]⟩,ty,pos,aft,none⟩::rest) (env n J L) w:=wl rfl (apO hS hi hx hy h2 ht he (by omega) k)
theorem wbx(_:Kv cs)(hS:Sep g T w G)(k:∀w' b,Im T w T w'->Sep g T w' (K7 b cs::G)->wpList P ops Q rest (env n J ((d,.pointer (some ⟨b,0,none⟩))::L)) w')
 (hx:ev n J L x=v:=by exact rfl) (hc:v.cells.toList=cs:=by exact rfl):wpList P ops Q (⟨some d,.box t x,ty,pos,aft,none⟩::rest) (env n J L) w:=wl rfl (bxS hx hc hS k)
end
section
variable{KK:Act->World->Prop}{G:List X1}{g:World}{q b j sz o:Nat}{cur cs zs:Ab}{x y:Operand}{t:TypeId}{v z:Value}{H:Ab->X1}
theorem ost(_:Kq q)(hS:Sep g T w G)(hs:∀w,(sizeOf t).run P w= .ok sz w)(k:∀w',Im T w T w'->Sep g T w' (A9 G q (K7 b (Q0e cur j cs)))->KK (env n J L) w')
 (hi:AtR G q (K7 b cur):=by exact⟨rfl,rfl⟩) (hx:ev n J L x= .pointer (some ⟨b,j,none⟩):=by exact rfl) (hy:ev n J L y=v:=by exact rfl) (hv:v.cells.toList=cs:=by exact rfl) (hl:cs.length=sz:=by exact rfl) (h1:cs.all Value.oneCell'=true:=by exact rfl) (hfit:Nat.ble (j+cs.length) cur.length=true:=by exact rfl):
 Oper.wp P ⟨none,.store t x y,ty,pos,aft,none⟩ (env n J L) w KK Q:=st0B hS hi hx hy hv hs hl h1 hfit k
theorem osb(_:Kq q)(_:Kq j)(hL:Ln b o H)(hS:Sep g T w G)(hs:∀w,(sizeOf t).run P w= .ok sz w)(k:∀w',Im T w T w'->Sep g T w' (A9 G q (H (Q0e cur j cs)))->KK (env n J L) w')
 (hi:AtR G q (H cur):=by exact⟨rfl,rfl⟩) (hx:ev n J L x= .pointer (some ⟨b,o+j,none⟩):=by exact rfl) (hy:ev n J L y=v:=by exact rfl) (hv:v.cells.toList=cs:=by exact rfl) (hl:cs.length=sz:=by exact rfl) (h1:cs.all Value.oneCell'=true:=by exact rfl) (hfit:Nat.ble (j+cs.length) cur.length=true:=by exact rfl):
 Oper.wp P ⟨none,.store t x y,ty,pos,aft,none⟩ (env n J L) w KK Q:=stB hS hi hL hx hy hv hs hl h1 hfit k
theorem oal(_:Kv zs)(hS:Sep g T w G)(hz:∀w,(zeroValue t).run P w= .ok z w)(k:∀w' b,Im T w T w'->Sep g T w' (K7 b zs::G)->KK (env n J ((d,.pointer (some ⟨b,0,none⟩))::L)) w')
 (hc:z.cells.toList=zs:=by exact rfl):Oper.wp P ⟨some d,.alloc t,ty,pos,aft,none⟩ (env n J L) w KK Q:=alS hz hc hS k
theorem obs{α:Type}{r:Rp α}{l:List α}{css:List (Ab)}{e:TypeId}{len:Nat}{parts:Array (Nat×Operand)}{cells:Array Value}(hS:Sep g T w G)(ha:Y2e r T w css l)(ht:P.underlying t=some (.slice e))(hs:∀w,(sizeOf e).run P w= .ok sz w)(hz:∀w,(zeroValue e).run P w= .ok z w)
 (k:∀w' a m c,Im T w T w'->Sep g T w' (F5 r e (.slice a m c) l::G)->KK (env n J ((d,.slice a m c)::L)) w')
 (hc:css.flatten.toArray=cells:=by exact rfl) (hl:l.length=len:=by exact rfl) (hle:Nat.ble (len*sz) 16777216=true:=by exact rfl) (h0:Nat.ble 1 (len*sz)=true:=by exact rfl)
 (hf:Instr.fill (fun i=>some (i*sz,sz)) ((Array.range (len*sz)).map (z.cells[·%z.cells.size]!)) (parts.toList.map fun p=>(p.1,ev n J L p.2))=some cells:=by kernel_rfl) (hr:r.sz=sz:=by exact rfl):
 Oper.wp P ⟨some d,.buildSlice t len parts,ty,pos,aft,none⟩ (env n J L) w KK Q:=bsS hS ht hs hz hle h0 hf (by subst hc;rfl) ha hl hr k
theorem oao{α:Type}{r:Rp α}{e:TypeId}{l us:List α}{m' m0 c0 m1 c1:Nat}{a0 a1:OA}(_:Kq q)(hS:Sep g T w G)(h2:SlV r T w (.slice a1 m1 c1) us)(ht:P.underlying t=some (.slice e))(he:Q1g P e r.sz)(hroom:m'<=8589934592)
 (k:∀w' a m c,Im T w T w'->Sep g T w' (A9 G q (F5 r e (.slice a m c) (l++us)))->KK (env n J ((d,.slice a m c)::L)) w')
 (hx:ev n J L x= .slice a0 m0 c0:=by exact rfl) (hy:ev n J L y= .slice a1 m1 c1:=by exact rfl) (hi:AtR G q (F5 r e (.slice a0 m0 c0) l):=by exact⟨rfl,rfl⟩) (hm:l.length+us.length=m':=by exact rfl):
 Oper.wp P ⟨some d,.call ⟨.builtin .append,#[x,y],#[t,t]⟩,ty,pos,aft,none⟩ (env n J L) w KK Q:=apO hS hi hx hy h2 ht he (by omega) k
theorem obx(_:Kv cs)(hS:Sep g T w G)(k:∀w' b,Im T w T w'->Sep g T w' (K7 b cs::G)->KK (env n J ((d,.pointer (some ⟨b,0,none⟩))::L)) w')
 (hx:ev n J L x=v:=by exact rfl) (hc:v.cells.toList=cs:=by exact rfl):Oper.wp P ⟨some d,.box t x,ty,pos,aft,none⟩ (env n J L) w KK Q:=bxS hx hc hS k
end
theorem fkC{c:Bool}{full rest:Ah}{o:Oper}(k:Nat)(M:List (Nat×Value))(hr:full.drop k=o::rest)(h:(∀(J':Nat->Value)(b:Bool),b=c->wpList P ops Q (o::rest) (env n J' ((d,.bool b)::M)) w)->wpList P ops Q full (env n J L) w)(hk:∀J':Nat->Value,wpList P ops Q (o::rest) (env n J' ((d,.bool c)::M)) w):wpList P ops Q full (env n J L) w:=h fun J' b e=>by subst e;exact hk J'
theorem fkN{c:Bool}{full:Ah}(k:Nat)(M:List (Nat×Value))(hr:full.drop k=[])(h:(∀(J':Nat->Value)(b:Bool),b=c->wpList P ops Q [] (env n J' ((d,.bool b)::M)) w)->wpList P ops Q full (env n J L) w)(hk:∀J':Nat->Value,wpList P ops Q [] (env n J' ((d,.bool c)::M)) w):wpList P ops Q full (env n J L) w:=h fun J' b e=>by subst e;exact hk J'
theorem quiet_mono{C:World->Prop}{Qa Qb:Act->Prop}(hq:∀a,Qa a->Qb a){l:Ah}{a:Act}(h:wpQuiet P ops C Qa l a):wpQuiet P ops C Qb l a:=
 qcut Qa l.length (by rw[List.take_length];exact h) fun a ha=>by rw[List.drop_length];exact wpQuiet_nil (hq a ha)
theorem wcB{α A:Type}{m:Option α}{kk:α->Option A}{r:A}{Ro:α->(TP)->World->Value->Prop}(hok:Z2m P f)(hm:m.bind kk=some r)(hc:∀y,m=some y->Calls P f args.toArray w (J6 T w (Ro y)))
 (k:∀y v T' w',Im T w T' w'->Ro y T' w' v->kk y=some r->wpList P ops Q rest (env n J ((d,v)::L)) w')
 (hf:ev n J L fo= .func (.func f) #[] ca:=by exact rfl) (ha:xs.toList.map (ev n J L)++ca.toList=args:=by exact rfl):
 wpList P ops Q (⟨some d,.call ⟨.value fo,xs,tys⟩,ty,pos,aft,none⟩::rest) (env n J L) w:=by
 obtain⟨y,hy,hm⟩:=bindS hm;exact wl rfl (calS hok hf (hc y hy) ha fun v T' w' i q=>k y v T' w' i q hm)
theorem wcBN{α A:Type}{m:Option α}{kk:α->Option A}{r:A}{Ro:α->(TP)->World->Value->Prop}(hok:Z2m P f)(hm:m.bind kk=some r)(hc:∀y,m=some y->Calls P f args.toArray w (J6 T w (Ro y)))
 (k:∀y v T' w',Im T w T' w'->Ro y T' w' v->kk y=some r->wpList P ops Q rest (env n J L) w')
 (hf:ev n J L fo= .func (.func f) #[] ca:=by exact rfl) (ha:xs.toList.map (ev n J L)++ca.toList=args:=by exact rfl):
 wpList P ops Q (⟨none,.call ⟨.value fo,xs,tys⟩,ty,pos,aft,none⟩::rest) (env n J L) w:=by
 obtain⟨y,hy,hm⟩:=bindS hm;exact wl rfl (calN hok hf (hc y hy) ha fun v T' w' i q=>k y v T' w' i q hm)
theorem O1{x y:Code}{a:Act}{κ O:Type}{f:κ->Option O}{k:κ}{r:O}(hm:jn f k=some r)(K:κ->Act->World->Prop)(h:∀kk,f kk=some r->x.wp P (Exit.then (K kk) Q) a w)(k2:∀a w,K k a w->y.wp P Q a w):
 (Code.seq x y).wp P Q a w:=cut (K k) (h k hm) k2
end
theorem rsm{g w w':World}{T T':TP}{R:(TP)->World->Value->Prop}{v:Value}{G:List X1}(S:Sep g T' w' G)(i:Im T w T' w')(h:R T' w' v):J6 T w R (.returned v) w':=⟨v,rfl,T',i,h⟩
theorem bc{α:Type}{b:Bool}{X Y Z:α}(hm:(bif b then X else Y)=Z):(b=true/\X=Z)\/(b=false/\Y=Z):=by
 cases b
 . exact .inr ⟨rfl,hm⟩
 . exact .inl ⟨rfl,hm⟩
theorem lrE{S R:Type}{b bd:S->Option (Lp S R)}{n:Nat}{s:S}{o:Lp S R}(h:loopM b n s=some o)(e:b=bd):∃m z,n=m+1/\bd s=some z/\Nx b m z o:=by
 subst e;exact X4n h
theorem lpJ{P:Program}{Q:Ac}{S R O:Type}{bd:S->Option (Lp S R)}{f:Lp S R->Option O}{x0:S}{r:O}{cd:Code}{i:Nat}{a:Act}{w:World}(hm:(loopM bd NN x0).bind f=some r)
 (I:(S->Option (Lp S R))->Lp S R->Nat->Act->World->Prop) (h0:∀b o,loopM b NN x0=some o->I b o NN a w)
 (h1:∀b,b=bd->∀o,f o=some r->∀m a w,I b o m a w->cd.wp P (Exit.then (fun a' w'=>∃n',n'<m/\I b o n' a' w') (Exit.inBlock i Q)) a w):(Code.block i (Code.loop cd)).wp P Q a w:=by
 obtain⟨o,ho,hq⟩:=bindS hm;exact blk (wp_loop_ghost (I bd o) NN (h0 bd o ho) (h1 bd rfl o hq))
theorem Q7b{S R A:Type}{bd:S->Option (Lp S R)}{m:Nat}{x:S}{z o:Lp S R}{f:S->Option A}{k:R->Option A}{q:Option A}(hm:some (Lp.brk x)=some z)(hn:Nx bd m z o)(hq:o.thn f k=q):f x=q:=by
 cases oI hm;have hn:o= .brk x:=hn;subst hn;exact hq
theorem Q5e{S R A:Type}{bd:S->Option (Lp S R)}{m:Nat}{x:R}{z o:Lp S R}{f:S->Option A}{k:R->Option A}{q:Option A}(hm:some (Lp.ret x)=some z)(hn:Nx bd m z o)(hq:o.thn f k=q):k x=q:=by
 cases oI hm;have hn:o= .ret x:=hn;subst hn;exact hq
abbrev exR{E R:Type}(y:Except E R)(A:R->Ending->World->Prop)(B:E->Ending->World->Prop):Ending->World->Prop:=match y with
 | .ok x=>A x
 | .error e=>B e
def L8(T:TP)(w:World)(R:(TP)->World->Value->Prop)(e:Ending)(w':World):Prop:=
 ∃v,e= .panicked [{v,recovered:=false}]/\∃T',Im T w T' w'/\R T' w' v

section
variable{P:Program}{ops:Array Oper}{Q:Ac}{rest:Ah}{n:NF}{J:Nat->Value}{L:List (Nat×Value)}{w w':World}
 {d:Nat} {dst:Option Tmp} {ty:TypeId} {pos:String} {aft:Ag} {v:Value} {x:Operand} {T:TP} {KK:Act->World->Prop}

theorem Z0k{f:FuncId}{fo:Operand}{ca:Array Value}{args:Ab}{xs:Array Operand}{tys:Array TypeId}{R:(TP)->World->Value->Prop}(hok:Z2m P f)(hf:ev n J L fo= .func (.func f) #[] ca)(hc:Calls P f args.toArray w (L8 T w R))(ha:xs.toList.map (ev n J L)++ca.toList=args)
 (k:∀v T' w',Im T w T' w'->R T' w' v->Q (.panic [{v,recovered:=false}]) (env n J L) w'):
 Oper.wp P ⟨dst,.call ⟨.value fo,xs,tys⟩,ty,pos,aft,none⟩ (env n J L) w KK Q:=by
 obtain⟨fn,h1,h2,h3⟩:=hok.ex;subst ha;have hm:(xs.map (ev n J L))++ca=(xs.toList.map (ev n J L)++ca.toList).toArray:=by apply Array.ext';simp
 have hr:=Z2u (w:=w) h1 h2 h3 (xs.map (ev n J L)++ca)
 have he:(execOp (ev n J L) ⟨dst,.call ⟨.value fo,xs,tys⟩,ty,pos,aft,none⟩).run P w= .ok (.enter f (xs.toList.map (ev n J L)++ca.toList).toArray) w:=by
  simp only[execOp,resolve,hf,Deferred.ofValue,invoke,Array.empty_append,pure_bind]
  rw[hr,hm]
 unfold Oper.wp;rw[Q1c,he,Oper.upon_enter];refine hc.mono ?_;rintro e w1 ⟨v,rfl,T',i,r⟩;exact k v T' w1 i r
theorem panO{t:TypeId}{u:Value}(hx:ev n J L x= .iface t u)(k:Q (.panic [{v:= .iface t u,recovered:=false}]) (env n J L) w):Oper.wp P ⟨none,.panic x,ty,pos,aft,none⟩ (env n J L) w KK Q:=by
 have he:(execOp (ev n J L) ⟨none,.panic x,ty,pos,aft,none⟩).run P w= .halt (.panic (.iface t u)) w:=by
  simp[execOp,hx,Instr.panic,goPanic,go_sem]
 unfold Oper.wp;rw[Q1c,he];exact k
theorem r_mif{t:TypeId}{u:Value}{fs:Array Field}(hx:ev n J L x=u)(ht:P.underlying t=some (.struct fs)):(execOp (ev n J L) ⟨some d,.makeInterface t x,ty,pos,aft,none⟩).run P w= .ok (.value (.iface t u)) w:=by
 simp[execOp,hx,Instr.makeInterface,run_underlying ht]
theorem panE{m:Nat}{fn:Func}{R:Ending->World->Prop}{c:List PanicEntry}(hR:R (.panicked c) w):bodyPost P fn R (.panic c) (env (nf m) J L) w:=⟨rfl,hR⟩
end

section
variable{P:Program}{Q:Ac}{K:Act->World->Prop}{a:Act}{w:World}{c:List PanicEntry}{i:Nat}{l:Ah}
theorem X0p(h:Q (.panic c) a w):Exit.then K Q (.panic c) a w:=h
theorem p_blk(h:Q (.panic c) a w):Exit.inBlock i Q (.panic c) a w:=h

def PQ(l:Ah)(Q:Ac):Prop:=∀c a i v w,Q (.panic c) (Act.put a (Q2m l i) v) w->Q (.panic c) a w
theorem U5(h:PQ l Q):PQ l (Exit.then K Q):=h
theorem Q0s(h:PQ l Q):PQ l (Exit.inBlock i Q):=h
theorem Y5u(a:Act)(x:Option Tmp)(v:Value):(a.put x v).defers=a.defers:=by cases x<;>rfl
theorem C8{fn:Func}{R:Ending->World->Prop}:PQ l (bodyPost P fn R):=fun c a i v w h=>by
 obtain⟨h1,h2⟩:=h
 exact⟨(Y5u a _ v)▸h1,h2⟩

def rsFree(l:Ah)(rs:List ResultVar):Bool:=l.all fun o=>match o.dst with
 |some d=>rs.all fun r=>match r with
  | .tmp t=>!Nat.beq t d
  | .cell t _=>!Nat.beq t d
 |none=>true
theorem X5y(a:Act){d t:Nat}(v:Value)(h:Nat.beq t d=false):(a.put (some d) v).tmps.getD t undef=a.tmps.getD t undef:=by
 have hne:d≠t:=fun e=>by subst e;simp at h
 simp only[Act.put,Array.getD_eq_getD_getElem?,Array.getElem?_setIfInBounds_ne hne]
theorem X0i{fn:Func}{rs:List ResultVar}(hr:fn.results=rs.toArray)(hf:rsFree l rs=true)(a:Act)(i:Nat)(v:Value):results fn (a.put (Q2m l i) v).tmps=results fn a.tmps:=by
 cases hd:Q2m l i with
 |none=>rfl
 |some d=>
  have hall:∀r∈rs,(match r with| .tmp t=>!Nat.beq t d| .cell t _=>!Nat.beq t d)=true:=by
   unfold Q2m at hd;cases ho:l[i]?with
   |none=>rw[ho]at hd;cases hd
   |some o=>
    rw[ho]at hd;have:=List.all_eq_true.1 hf o (List.mem_of_getElem? ho);rw[show o.dst=some d from hd]at this;exact List.all_eq_true.1 this
  have hg:∀r∈rs,Y0f (a.put (some d) v).tmps r=Y0f a.tmps r:=fun r hr=>by
   have h:=hall r hr;cases r with
   |tmp t=>simp only[Y0f];rw[X5y a v (by simpa using h)]
   |cell t ty=>simp only[Y0f];rw[X5y a v (by simpa using h)]
  have hm:∀tm,results fn tm=(do
   let vs<-fn.results.mapM (Y0f tm)
   pure (if h:vs.size=1 then vs[0]else .tuple vs)):=fun tm=>by
   unfold results
   rfl
  rw[hm,hm,hr,List.mapM_toArray,List.mapM_toArray]
  have hl:∀(q:List ResultVar),(∀r∈q,r∈rs)->q.mapM (Y0f (a.put (some d) v).tmps)=q.mapM (Y0f a.tmps):=by
   intro q
   induction q with
   |nil=>intro _;rfl
   |cons r q ih=>
    intro hq;rw[List.mapM_cons,List.mapM_cons,hg r (hq r (by simp)),ih fun r hr=>hq r (by simp[hr])]
  rw[hl rs fun _ h=>h]
theorem Y1b{fn:Func}{R:Ending->World->Prop}{t1 t2:Array Value}(h:results fn t1=results fn t2):∀(ds:List Deferred)(u:FrameMode)(w:World),Leaves P fn t1 R ds u w->Leaves P fn t2 R ds u w
 |[],.returning,w,hl=>by obtain⟨v,h1,h2⟩:=hl;exact⟨v,h▸h1,h2⟩
 |[],.panicking _,w,hl=>hl
 |[],.run,w,hl=>hl.elim
 |d::ds,u,w,hl=>by
  obtain⟨h1,fv,cap,f,args,h2,h3,h4⟩:=hl
  refine⟨h1,fv,cap,f,args,h2,h3,h4.mono fun e u' w' he=>?_⟩
  cases e with
  |returned v=>exact Y1b h ds _ _ he
  |panicked c=>exact Y1b h ds _ _ he
  |outgrown=>exact he
theorem X2l{fn:Func}{R:Ending->World->Prop}{rs:List ResultVar}(hr:fn.results=rs.toArray)(hf:rsFree l rs=true):PQ l (bodyPostD P fn R):=fun c a i v w h=>by
 have h':Leaves P fn (a.put (Q2m l i) v).tmps R (a.put (Q2m l i) v).defers (.panicking c) w:=h
 rw[Y5u]at h'
 exact Y1b (X0i hr hf a i v) _ _ _ h'
end

section
variable{P:Program}{Q:Ac}{n:NF}{J:Nat->Value}{L:List (Nat×Value)}{w:World}{l:Ah}{T:TP}{pd:List (Nat×Value)}{fl:List Nat}
theorem rsP{id:Nat}(fl:List Nat)(ord:List Nat)(hm:P.follows .mixedOrders=true)(hB:serB l fl ord=true)(hb:Bd T w)(hQ:PQ l Q)
 (k:∀w',Inn w.heap.size noB T w T w'->H8 P l fl Q [] ord (env n J L) w'):(Code.region id l.toArray true).wp P Q (env n J L) w:=by
 refine(wpIn_wide (n:=0)).1 (wpIn_region_any hm ?_);have:=Y9d hB (Q:=Q) hQ (k w.drew ((Inn.refl hb (qD _)).ch0 (Ch.drew noB w)))
 simpa using this
theorem seP(h:Q .normal (env n J L) w):H8 P l fl Q pd [] (env n J L) w:=h
theorem rtP{id:Nat}(fl:List Nat)(ord:List Nat)(hm:P.follows .mixedOrders=true)(hB:trB l fl ord=true)(hb:Bd T w)(hQ:PQ l Q)
 (k:∀w',Inn w.heap.size noB T w T w'->Q1o P l fl Q ord.length [] ord (env n J L) w'):(Code.region id l.toArray true).wp P Q (env n J L) w:=by
 refine(wpIn_wide (n:=0)).1 (wpIn_region_any hm ?_);have:=X2d hB (Q:=Q) hQ (k w.drew ((Inn.refl hb (qD _)).ch0 (Ch.drew noB w)))
 simpa using this
theorem teP{m:Nat}(h:Q .normal (env n J L) w):Q1o P l fl Q m pd [] (env n J L) w:=by
 cases m with
 |zero=>exact⟨rfl,h⟩
 |succ m=>exact h
end

/-! ## Functions that defer a call -/
section
variable{P:Program}{Q:Ac}{n:NF}{J:Nat->Value}{L:List (Nat×Value)}{w:World}{ops:Array Oper}{KK:Act->World->Prop}{ty:TypeId}{pos:String}{aft:Ag}{x:Operand}
theorem Y7z{f:FuncId}{fn:Func}{cd:Code}{args:Ab}{R:Ending->World->Prop}{m:Nat}(hf:P.funcs[f]?=some fn)(hb:fn.body=some cd)(hm:fn.ntmps=m)(hl:Nat.ble args.length m=true)
 (h:∀J,cd.wp P (bodyPostD P fn R) (env (nf m) J (Y3i 0 args)) w):Calls P f args.toArray w R:=by
 refine calls_of_wp_defers hf hb ?_;have hl':args.length<=m:=kN hl
 have e:(⟨args.toArray++Array.replicate (fn.ntmps-args.toArray.size) undef,[]⟩:Act)=env (nf m) (fun i=>args.getD i undef) []:=by
  unfold env
  congr 1
  apply Array.ext
  . simp;omega
  . intro i h1 h2;have him:i<m:=by simpa using h2
    by_cases hi:i<args.length
    . simp[lk,hi,List.getD]
    . simp[lk,hi,Array.getElem_append,List.getD]
 rw[e];have hz:Has (nf m) (fun i=>args.getD i undef) [] (Y3i 0 args):=Y3h _ args 0 fun i v hv=>by simp[List.getD,hv]
 have:env (nf m) (fun i=>args.getD i undef) []=env (nf m) (lk (fun i=>args.getD i undef) []) (Y3i 0 args):=by unfold env;rw[Y7r (nf m) _ [] _ hz]
 rw[this];exact h _
theorem dfO{f:FuncId}{cap:Array Value}(hx:ev n J L x= .func (.func f) #[] cap)(k:KK (env ⟨n.n,⟨.fn (.func f) cap,#[]⟩::n.ds⟩ J L) w):Oper.wp P ⟨none,.defer ⟨.value x,#[],#[]⟩,ty,pos,aft,none⟩ (env n J L) w KK Q:=by
 have he:(execOp (ev n J L) ⟨none,.defer ⟨.value x,#[],#[]⟩,ty,pos,aft,none⟩).run P w= .ok (.defer ⟨.fn (.func f) cap,#[]⟩) w:=by
  simp[execOp,resolve,hx,Deferred.ofValue,go_sem]
 unfold Oper.wp;rw[Q1c,he,Oper.upon_defer];exact k

end

def EndO(R:World->Prop):Ac
 | .normal,a,w=>a.defers=[]/\R w
 | .ret,a,w=>a.defers=[]/\R w
 |_,_,_=>False
section
variable{P:Program}{w:World}{J:Nat->Value}{L:List (Nat×Value)}
theorem X1p{args:Ab}{m:Nat}(hl:Nat.ble args.length m=true):∃J,(⟨args.toArray++Array.replicate (m-args.toArray.size) undef,[]⟩:Act)=env (nf m) J (Y3i 0 args):=by
 have hl':args.length<=m:=kN hl
 have e:(⟨args.toArray++Array.replicate (m-args.toArray.size) undef,[]⟩:Act)=env (nf m) (fun i=>args.getD i undef) []:=by
  unfold env
  congr 1
  apply Array.ext
  . simp;omega
  . intro i h1 h2;have him:i<m:=by simpa using h2
    by_cases hi:i<args.length
    . simp[lk,hi,List.getD]
    . simp[lk,hi,Array.getElem_append,List.getD]
 rw[e];have hz:Has (nf m) (fun i=>args.getD i undef) [] (Y3i 0 args):=Y3h _ args 0 fun i v hv=>by simp[List.getD,hv]
 exact⟨lk (fun i=>args.getD i undef) [],by unfold env;rw[Y7r (nf m) _ [] _ hz]⟩
theorem lk_here{t m:Nat}{v:Value}(ht:Nat.blt t m=true):ev (nf m) J ((t,v)::L) (.tmp t)=v:=by
 simp only[ev,lk]
 rw[ht]
 simp
theorem X5b{P:Program}{fn:Func}{c₀ c₁:Frame}{cs:List Frame}{u':FrameMode}{R':World->Prop}(hc:c₁={c₀ with mode:=u'})(hr:fn.results=#[]){X:Code}{a:Act}(h:X.wp P (EndO R') a w):
 X.wpS P (bodyPostS P fn c₀ cs fun e u w'=>e= .returned (.tuple #[])/\u=u'/\R' w') a (c₁::cs) w:=by
 subst hc;refine wpS_of_wp (Code.wp_mono (fun e a w he=>?_) h);cases e with
 |normal=>exact⟨he.1,u',rfl,.tuple #[],by simp[results,hr],rfl,rfl,he.2⟩
 |ret=>exact⟨he.1,u',rfl,.tuple #[],by simp[results,hr],rfl,rfl,he.2⟩
 |exit i=>exact he.elim
 |goto i=>exact he.elim
 |panic c=>exact he.elim
 |outgrown=>exact he.elim
section
variable{f:FuncId}{fn:Func}{args:Ab}{m:Nat}{i:Nat}{t u:Tmp}{q q2 y1 y2:TypeId}{s1 s2:String}{f1 f2:Ag}{tys:Array TypeId}{X Y:Code}{R':World->Prop}
end

theorem retD{m:Nat}{fn:Func}{R:Ending->World->Prop}{f:FuncId}{cap:Array Value}(hok:Z2m P f)(hc:CallsD P f cap .returning w fun e u' w'=>e= .returned (.tuple #[])/\u'= .returning/\∃v,(results fn (env ⟨m,[⟨.fn (.func f) cap,#[]⟩]⟩ J L).tmps).run P w'= .ok v w'/\R (.returned v) w'):
 bodyPostD P fn R .ret (env ⟨m,[⟨.fn (.func f) cap,#[]⟩]⟩ J L) w:=by
 obtain⟨g,h1,h2,h3⟩:=hok.ex;refine leaves_cons (by simp) (f:=f) (args:=cap) ?_ (hc.mono ?_)
 . have:=Z2u (w:=w) h1 h2 h3 (#[]++cap)
   simpa[invoke]using this
 . rintro e u' w' ⟨rfl,rfl,v,hv,hR⟩;exact⟨v,hv,hR⟩
theorem panD{m:Nat}{fn:Func}{R:Ending->World->Prop}{f:FuncId}{cap:Array Value}{t0:TypeId}{u0:Value}(hok:Z2m P f)(hc:CallsD P f cap (.panicking [{v:= .iface t0 u0,recovered:=false}]) w fun e u' w'=>e= .returned (.tuple #[])/\u'= .panicking [{v:= .iface t0 u0,recovered:=true}]/\∃v,(results fn (env ⟨m,[⟨.fn (.func f) cap,#[]⟩]⟩ J L).tmps).run P w'= .ok v w'/\R (.returned v) w'):
 bodyPostD P fn R (.panic [{v:= .iface t0 u0,recovered:=false}]) (env ⟨m,[⟨.fn (.func f) cap,#[]⟩]⟩ J L) w:=by
 obtain⟨g,h1,h2,h3⟩:=hok.ex;refine leaves_cons (by simp) (f:=f) (args:=cap) ?_ (hc.mono ?_)
 . have:=Z2u (w:=w) h1 h2 h3 (#[]++cap)
   simpa[invoke]using this
 . rintro e u' w' ⟨rfl,rfl,v,hv,hR⟩;exact⟨v,hv,hR⟩
theorem W7{cd:Code}{f:FuncId}{fn:Func}{args:Ab}{m:Nat}{R':World->Prop}{um:FrameMode}(hf:P.funcs[f]?=some fn)(hb:fn.body=some cd)(hm:fn.ntmps=m)(hl:Nat.ble args.length m=true)(hr:fn.results=#[])
 (h:∀J,cd.wp P (EndO R') (env (nf m) J (Y3i 0 args)) w):CallsD P f args.toArray um w fun e u' w'=>e= .returned (.tuple #[])/\u'=um/\R' w':=by
 subst hm;obtain⟨J,hJ⟩:=X1p hl;refine(callsD_of_wp (R:=fun e w'=>e= .returned (.tuple #[])/\R' w') hf hb ?_).mono ?_
 . rw[hJ];refine Code.wp_mono (fun e a w he=>?_) (h J);cases e with
   |normal=>exact⟨he.1,.tuple #[],by simp[results,hr],rfl,he.2⟩
   |ret=>exact⟨he.1,.tuple #[],by simp[results,hr],rfl,he.2⟩
   |exit i=>exact he.elim
   |goto i=>exact he.elim
   |panic c=>exact he.elim
   |outgrown=>exact he.elim
 . rintro e u' w' ⟨rfl,rfl,hR⟩;exact⟨rfl,rfl,hR⟩
theorem Q5u{m:Nat}{fn:Func}{R:Ending->World->Prop}{f:FuncId}{cap:Array Value}{v0:Value}(hok:Z2m P f)(hc:CallsD P f cap (.panicking [{v:=v0,recovered:=false}]) w fun e u' w'=>e= .returned (.tuple #[])/\u'= .panicking [{v:=v0,recovered:=false}]/\R (.panicked [{v:=v0,recovered:=false}]) w'):
 bodyPostD P fn R (.panic [{v:=v0,recovered:=false}]) (env ⟨m,[⟨.fn (.func f) cap,#[]⟩]⟩ J L) w:=by
 obtain⟨g,h1,h2,h3⟩:=hok.ex;refine leaves_cons (by simp) (f:=f) (args:=cap) ?_ (hc.mono ?_)
 . have:=Z2u (w:=w) h1 h2 h3 (#[]++cap)
   simpa[invoke]using this
 . rintro e u' w' ⟨rfl,rfl,hR⟩;exact hR
theorem panED{m:Nat}{fn:Func}{R:Ending->World->Prop}{c:List PanicEntry}(hR:R (.panicked c) w):bodyPostD P fn R (.panic c) (env (nf m) J L) w:=hR
theorem endO{n:NF}{R':World->Prop}(hn:n.ds=[])(h:R' w):EndO R' .normal (env n J L) w:=⟨hn,h⟩
end
abbrev recA(i:Nat)(t u:Tmp)(y1 y2:TypeId)(s1 s2:String)(f1 f2:Ag)(tys:Array TypeId)(Z:Code):Code:=
 .seq (.region i #[⟨some t,.call ⟨.builtin .recover,#[],tys⟩,y1,s1,f1,none⟩,⟨some u,.assign (.tmp t),y2,s2,f2,none⟩] false) Z
section
variable{P:Program}{w:World}{J:Nat->Value}{L:List (Nat×Value)}{f:FuncId}{fn:Func}{args:Ab}{m:Nat}{i:Nat}{t u:Tmp}{y1 y2:TypeId}{s1 s2:String}{f1 f2:Ag}{tys:Array TypeId}{Z:Code}{R':World->Prop}
theorem recO2(cs cs':List Frame)(v:Value)(hv:(match recoverD cs with|some (v,cs')=>(v,cs')|none=>(.nilIface,cs))=(v,cs'))(ht:Nat.blt t m=true)
 {Q:Exit->Act->List Frame->World->Prop} (h:Q .normal (env (nf m) J ((u,v)::(t,v)::L)) cs' w):
 (Code.region i #[⟨some t,.call ⟨.builtin .recover,#[],tys⟩,y1,s1,f1,none⟩,⟨some u,.assign (.tmp t),y2,s2,f2,none⟩] false).wpS P Q (env (nf m) J L) cs w:=by
 refine wpS_region ?_;show wpOpsS P _ Q [0,1] _ _ _
 have e1:(execOp (ev (nf m) J L) ⟨some t,.call ⟨.builtin .recover,#[],tys⟩,y1,s1,f1,none⟩).run P w= .ok .recover w:=by
  simp[go_sem]
 have e2:(execOp (ev (nf m) J ((t,v)::L)) ⟨some u,.assign (.tmp t),y2,s2,f2,none⟩).run P w= .ok (.value v) w:=by
  have hl:ev (nf m) J ((t,v)::L) (.tmp t)=v:=lk_here ht
  simp[execOp,hl]
 have hw1:Region.wanted (⟨some t,.call ⟨.builtin .recover,#[],tys⟩,y1,s1,f1,none⟩:Oper) (yielded #[⟨some t,.call ⟨.builtin .recover,#[],tys⟩,y1,s1,f1,none⟩,⟨some u,.assign (.tmp t),y2,s2,f2,none⟩] (env (nf m) J L).tmps)=true:=rfl
 have key:∀(v:Value)(cs:List Frame) w,(execOp (ev (nf m) J ((t,v)::L)) ⟨some u,.assign (.tmp t),y2,s2,f2,none⟩).run P w= .ok (.value v) w->Q .normal (env (nf m) J ((u,v)::(t,v)::L)) cs w->
  wpOpsS P #[⟨some t,.call ⟨.builtin .recover,#[],tys⟩,y1,s1,f1,none⟩,⟨some u,.assign (.tmp t),y2,s2,f2,none⟩] Q [1] (env (nf m) J ((t,v)::L)) cs w:=by
  intro v cs w he hq;unfold wpOpsS
  simp only[List.getElem?_toArray,List.getElem?_cons_succ,List.getElem?_cons_zero]
  have hw2:Region.wanted (⟨some u,.assign (.tmp t),y2,s2,f2,none⟩:Oper) (yielded #[⟨some t,.call ⟨.builtin .recover,#[],tys⟩,y1,s1,f1,none⟩,⟨some u,.assign (.tmp t),y2,s2,f2,none⟩] (env (nf m) J ((t,v)::L)).tmps)=true:=rfl;rw[if_pos hw2,Q1c,he]
  simp only[Oper.upon,wpOpsS]
  rw[Q7r];exact hq
 unfold wpOpsS
 simp only[List.getElem?_toArray,List.getElem?_cons_zero]
 rw[if_pos hw1,Q1c,e1]
 simp only
 cases hc:recoverD cs with
 |none=>
  rw[hc]at hv;cases hv
  simp only
  rw[Q7r];exact key _ _ _ e2 h
 |some p=>
  obtain⟨v',cs''⟩:=p;rw[hc]at hv;cases hv
  simp only
  rw[Q7r];exact key _ _ _ e2 h
theorem recN2(hf:P.funcs[f]?=some fn)(hb:fn.body=some (recA i t u y1 y2 s1 s2 f1 f2 tys Z))(hm:fn.ntmps=m)(hl:Nat.ble args.length m=true)(hr:fn.results=#[])(ht:Nat.blt t m=true)
 (h:∀J,Z.wp P (EndO R') (env (nf m) J ((u,.nilIface)::(t,.nilIface)::Y3i 0 args)) w):
 CallsD P f args.toArray .returning w fun e u' w'=>e= .returned (.tuple #[])/\u'= .returning/\R' w':=by
 refine callsD_of_wpS hf hb fun c₀ cs hc=>?_;subst hm;obtain⟨J,hJ⟩:=X1p hl;rw[hJ];refine wpS_seq (recO2 _ (c₀::cs) .nilIface ?_ ht ?_)
 . simp[recoverD,hc]
 . exact X5b (by rw[<-hc]) hr (h J)
theorem Y9f{t0:TypeId}{u0:Value}(hf:P.funcs[f]?=some fn)(hb:fn.body=some (recA i t u y1 y2 s1 s2 f1 f2 tys Z))(hm:fn.ntmps=m)(hl:Nat.ble args.length m=true)(hr:fn.results=#[])(ht:Nat.blt t m=true)
 (h:∀J,Z.wp P (EndO R') (env (nf m) J ((u,.iface t0 u0)::(t,.iface t0 u0)::Y3i 0 args)) w):
 CallsD P f args.toArray (.panicking [{v:= .iface t0 u0,recovered:=false}]) w fun e u' w'=>e= .returned (.tuple #[])/\u'= .panicking [{v:= .iface t0 u0,recovered:=true}]/\R' w':=by
 refine callsD_of_wpS hf hb fun c₀ cs hc=>?_;subst hm;obtain⟨J,hJ⟩:=X1p hl;rw[hJ];refine wpS_seq (recO2 _ ({c₀ with mode:= .panicking [{v:= .iface t0 u0,recovered:=true}]}::cs) (.iface t0 u0) ?_ ht ?_)
 . simp[recoverD,hc]
 . exact X5b rfl hr (h J)
theorem r_eqn{n:NF}{d:Nat}{x:Operand}{q q2 ty:TypeId}{pos:String}{aft:Ag}(hx:ev n J L x= .nilIface)(hq:P.underlying q=some (.interface (P.methodsAt q))):(execOp (ev n J L) ⟨some d,.binOp .eql q x (.const .nilIface) q2,ty,pos,aft,none⟩).run P w= .ok (.value (.bool true)) w:=by
 have hc:ev n J L (.const .nilIface)= .nilIface:=rfl;have:=run_eql_nil_nil w q hq
 simp[execOp,hx,hc,this,eqGuard,go_sem]
theorem Y9h{n:NF}{d:Nat}{x:Operand}{q q2 ty t0:TypeId}{u0:Value}{pos:String}{aft:Ag}(hx:ev n J L x= .iface t0 u0)(hq:P.underlying q=some (.interface (P.methodsAt q))):(execOp (ev n J L) ⟨some d,.binOp .eql q x (.const .nilIface) q2,ty,pos,aft,none⟩).run P w= .ok (.value (.bool false)) w:=by
 have hc:ev n J L (.const .nilIface)= .nilIface:=rfl;have:=run_eql_held_nil w q t0 u0 hq;have hg:eqGuard .eql q x (.const .nilIface) (.iface t0 u0) .nilIface=pure ():=by cases x<;>rfl
 simp[execOp,hx,hc,this,hg,go_sem]
theorem r_ta{n:NF}{d:Nat}{x:Operand}{src t ty:TypeId}{u0:Value}{pos:String}{aft:Ag}(hx:ev n J L x= .iface t u0)(h:(Instr.typeAssert (.iface t u0) src t false).run P w= .ok u0 w):(execOp (ev n J L) ⟨some d,.typeAssert x src t false,ty,pos,aft,none⟩).run P w= .ok (.value u0) w:=by
 simp[execOp,hx,h]
theorem endR{n:NF}{R':World->Prop}(hn:n.ds=[])(h:R' w):EndO R' .ret (env n J L) w:=⟨hn,h⟩
end
theorem psm{g w w':World}{T T':TP}{R:(TP)->World->Value->Prop}{v:Value}{G:List X1}(S:Sep g T' w' G)(i:Im T w T' w')(h:R T' w' v):L8 T w R (.panicked [{v,recovered:=false}]) w':=⟨v,rfl,T',i,h⟩
theorem eoR{P:Program}{fn:Func}{t:Array Value}{w:World}{u:Value}{R:Ending->World->Prop}(h:(results fn t).run P w= .ok u w)(hR:R (.returned u) w):∃v,(results fn t).run P w= .ok v w/\R (.returned v) w:=⟨u,h,hR⟩
section
variable{P:Program}{ops:Array Oper}{Q:Ac}{rest:Ah}{n:NF}{J:Nat->Value}{L:List (Nat×Value)}{w:World}
 {d:Nat} {ty:TypeId} {pos:String} {aft:Ag} {T:TP} {f:FuncId} {fo:Operand} {ca:Array Value} {args:Ab} {xs:Array Operand} {tys:Array TypeId}
 {E O A:Type} {m:Option (Except E O)} {ko:O->Option A} {ke:E->Option A} {r:A} {Ro:O->(TP)->World->Value->Prop} {Re:E->(TP)->World->Value->Prop}
theorem wcP(hok:Z2m P f)(hm:(m.bind fun y=>exC y ko ke)=some r)(hc:∀y,m=some y->Calls P f args.toArray w (exR y (fun x=>J6 T w (Ro x)) (fun e=>L8 T w (Re e))))
 (k1:∀e v T' w',Im T w T' w'->Re e T' w' v->ke e=some r->Q (.panic [{v,recovered:=false}]) (env n J L) w')
 (k2:∀x v T' w',Im T w T' w'->Ro x T' w' v->ko x=some r->wpList P ops Q rest (env n J ((d,v)::L)) w')
 (hf:ev n J L fo= .func (.func f) #[] ca:=by exact rfl) (ha:xs.toList.map (ev n J L)++ca.toList=args:=by exact rfl):
 wpList P ops Q (⟨some d,.call ⟨.value fo,xs,tys⟩,ty,pos,aft,none⟩::rest) (env n J L) w:=by
 obtain⟨y,hy,hm⟩:=bindS hm
 rcases y with e|x
 . exact wl rfl (Z0k hok hf (hc _ hy) ha fun v T' w' i q=>k1 e v T' w' i q (G0 hm))
 . exact wl rfl (calS hok hf (hc _ hy) ha fun v T' w' i q=>k2 x v T' w' i q (C1 hm))
theorem wcPN(hok:Z2m P f)(hm:(m.bind fun y=>exC y ko ke)=some r)(hc:∀y,m=some y->Calls P f args.toArray w (exR y (fun x=>J6 T w (Ro x)) (fun e=>L8 T w (Re e))))
 (k1:∀e v T' w',Im T w T' w'->Re e T' w' v->ke e=some r->Q (.panic [{v,recovered:=false}]) (env n J L) w')
 (k2:∀x v T' w',Im T w T' w'->Ro x T' w' v->ko x=some r->wpList P ops Q rest (env n J L) w')
 (hf:ev n J L fo= .func (.func f) #[] ca:=by exact rfl) (ha:xs.toList.map (ev n J L)++ca.toList=args:=by exact rfl):
 wpList P ops Q (⟨none,.call ⟨.value fo,xs,tys⟩,ty,pos,aft,none⟩::rest) (env n J L) w:=by
 obtain⟨y,hy,hm⟩:=bindS hm
 rcases y with e|x
 . exact wl rfl (Z0k hok hf (hc _ hy) ha fun v T' w' i q=>k1 e v T' w' i q (G0 hm))
 . exact wl rfl (calN hok hf (hc _ hy) ha fun v T' w' i q=>k2 x v T' w' i q (C1 hm))
end
def objA(b:Nat)(o:Obj):X1 where
 P:=fun _ w F=>(∀k,F k↔k=b)/\w.heap[b]?=some o
 loc:=fun h _ hs=>⟨h.1,(hs b (.inr ((h.1 b).2 rfl))).trans h.2⟩
 bnd:=fun h k hk=>by have:=(h.1 k).1 hk;subst this;exact hlt h.2

theorem Ch.putObj(w:World)(b:Nat)(o:Obj):Ch (fun k=>k=b) w (w.putObj b o):=
 ⟨rfl,rfl,rfl,by simp,fun k _ hn=>World.putObj_heap_other hn⟩
theorem Sep.obj{g w:World}{T:TP}{L:List X1}{b:Nat}{o:Obj}(h:Sep g T w L)(i:Nat)(hi:Nat.blt i (J8 L)=true)(hA:atA L i=objA b o):w.heap[b]?=some o/\¬T b:=by
 obtain⟨F,hF,hn⟩:=h.get i hi;rw[hA]at hF;exact⟨hF.2,hn b ((hF.1 b).2 rfl)⟩
theorem Sep.setObj{g w:World}{T:TP}{L:List X1}{b:Nat}{o:Obj}(h:Sep g T w L)(i:Nat)(hi:Nat.blt i (J8 L)=true)(hA:atA L i=objA b o)(o':Obj):
 Im T w T (w.putObj b o')/\Sep g T (w.putObj b o') (A9 L i (objA b o')):=by
 obtain⟨hb,hn⟩:=h.obj i hi hA;have inn:Inn w.heap.size (fun k=>k=b) T w T (w.putObj b o'):=(Inn.refl h.lt (qD _)).ch1 (Ch.putObj w b o') fun k hk=>⟨by subst hk;exact hn,.inr hk⟩;refine⟨fun k hk=>⟨hk,(inn.imm k hk).2⟩,h.put i hi inn fun F hF hFn=>?_⟩;rw[hA]at hF;exact⟨fun k hk=>(hF.1 k).2 hk,F,⟨hF.1,World.putObj_heap_same (hlt hb)⟩,fun k hk=>⟨.inl hk,hFn k hk⟩⟩
/-! ## Operations in a round -/
/-! ## The statement -/
/-! ## Calls of yield -/
/-! ## Assertions with names and with frozen slices in them -/
def exA{ι:Type}(A:ι->X1):X1 where
 P:=fun T w F=>∃i,(A i).P T w F
 loc:=fun⟨i,h⟩ hT hs=>⟨i,(A i).loc h hT hs⟩
 bnd:=fun⟨i,h⟩=>(A i).bnd h
theorem Sep.exE{g w:World}{T:TP}{L:List X1}{ι:Type}{A:ι->X1}(h:Sep g T w (exA A::L)):∃i,Sep g T w (A i::L):=by
 obtain⟨h1,h2,h3,h4,fs,h5,h6⟩:=h;obtain⟨i,hi⟩:=h5.1 0 (Nat.succ_pos _);exact⟨i,h1,h2,h3,h4,fs,⟨fun j hj=>match j,hj with|0,_=>hi|j+1,hj=>h5.1 (j+1) hj,h5.2⟩,h6⟩
theorem Sep.exI{g w:World}{T:TP}{L:List X1}{ι:Type}{A:ι->X1}(i:ι)(h:Sep g T w (A i::L)):Sep g T w (exA A::L):=h.imp 0 rfl fun F hF=>⟨i,hF⟩
/-! ## The control of a round -/
section
variable{P:Program}{Q:Ac}{n:NF}{J:Nat->Value}{L:List (Nat×Value)}{w:World}{a:Act}{x y:Code}{l i:Nat}{g:World}{T:TP}{R Y:X1}{j:Option Code}
end

/-! ## A function that holds such a statement -/
/-! ## A region in its own order, in which operations may begin a round -/
/-! ## A region that draws its order, in a round -/
def Z1y(sz:Nat):Rp (Ab) where
 sz:=sz
 agg:=true
 rp:=fun _ _ cs x=>cs=x/\x.length=sz/\∀c∈x,c.oneCell'=true
 len:=fun h=>by rw[h.1];exact h.2.1
 one:=fun h=>by rw[h.1];exact h.2.2
 mono:=fun _ h=>h

structure En(α:Type) where
 sz:Nat
 A:α->Ab->X1
 len:∀{T:TP}{w:World}{F:TP}{x:α}{cs:Ab},(A x cs).P T w F->cs.length=sz
 one:∀{T:TP}{w:World}{F:TP}{x:α}{cs:Ab},(A x cs).P T w F->∀c∈cs,c.oneCell'=true

def pA(p:Prop)(A:X1):X1 where
 P:=fun T w F=>p/\A.P T w F
 loc:=fun⟨h1,h2⟩ hT hs=>⟨h1,A.loc h2 hT hs⟩
 bnd:=fun⟨_,h⟩=>A.bnd h

def Q9u{α:Type}(E:En α)(l:List α)(css:List (Ab))(h:Option Nat):X1 where
 P:=fun T w F=>css.length=l.length/\∃fs:Nat->Nat->Prop,(∀i x c,h≠some i->l[i]?=some x->css[i]?=some c->(E.A x c).P T w (fs i))/\(∀i j k,fs i k->fs j k->i=j)/\(∀i k,fs i k->h≠some i/\i<l.length)/\∀k,F k↔∃i,fs i k
 loc:=fun{T T' w w' F}⟨h0,fs,h1,h2,h3,h4⟩ hT hs=>⟨h0,fs,fun i x c hi hx hc=>(E.A x c).loc (h1 i x c hi hx hc) hT fun k hk=>hs k (hk.imp id fun hk=>(h4 k).2 ⟨i,hk⟩),h2,h3,h4⟩
 bnd:=fun{T w F}⟨h0,fs,h1,h2,h3,h4⟩ k hk=>by
  obtain⟨i,hi⟩:=(h4 k).1 hk
  obtain⟨hn,hl⟩:=h3 i k hi
  exact(E.A l[i] (css[i]'(by omega))).bnd (h1 i _ _ hn (kM hl) (kM (by omega))) k hi

def Z2p{α:Type}(E:En α)(e:TypeId)(v:Value)(l:List α):X1:=exA fun css=>X0 [F5 (Z1y E.sz) e v css,Q9u E l css none]

section
variable{g:World}{T T':TP}{w w':World}{G:List X1}{q:Nat}{A B:X1}
theorem Sep.tail(h:Sep g T w (A::G)):Sep g T w G:=by
 obtain⟨h1,h2,h3,h4,fs,h5,h6⟩:=h;refine⟨h1,h2,h3,h4,fun i=>fs (i+1),⟨fun i hi=>h5.1 (i+1) (Nat.succ_lt_succ hi),fun i j k hi hj a b=>?_⟩,fun i k hi hk=>h6 (i+1) k (Nat.succ_lt_succ hi) hk⟩;have:=h5.2 _ _ k (Nat.succ_lt_succ hi) (Nat.succ_lt_succ hj) a b;omega
theorem Sep.pE{p:Prop}(h:Sep g T w (pA p A::G)):p/\Sep g T w (A::G):=by
 obtain⟨F,hF,_⟩:=h.get 0 rfl;exact⟨hF.1,h.imp 0 rfl fun F hF=>hF.2⟩
theorem Sep.pI{p:Prop}(hp:p)(h:Sep g T w (A::G)):Sep g T w (pA p A::G):=h.imp 0 rfl fun F hF=>⟨hp,hF⟩
theorem Sep.spl(h:Sep g T w G)(hi:AtR G q (X0 [A,B])):Sep g T w (B::A9 G q A):=by
 obtain⟨h1,h2,h3,h4,fs,h5,h6⟩:=h;have hq:q<J8 G:=kN hi.lt;have hP:=h5.1 q hq;rw[hi.at_]at hP;obtain⟨gs,f1,f2⟩:=hP;have gA:A.P T w (gs 0):=f1.1 0 (by simp[J8]);have gB:B.P T w (gs 1):=f1.1 1 (by simp[J8]);have in0:∀k,gs 0 k->fs q k:=fun k hk=>(f2 k).2 ⟨0,by simp[J8],hk⟩;have in1:∀k,gs 1 k->fs q k:=fun k hk=>(f2 k).2 ⟨1,by simp[J8],hk⟩
 have h01:∀k,gs 0 k->gs 1 k->False:=fun k a b=>by
  have:=f1.2 0 1 k (by simp[J8]) (by simp[J8]) a b;omega
 let F:Nat->Nat->Prop:=fun i=>match i with
  |0=>gs 1
  |i+1=>if i=q then gs 0 else fs i
 have hF1:∀i k,F (i+1) k->fs i k/\(i=q->gs 0 k):=fun i k hk=>by
  by_cases hiq:i=q
  . have:gs 0 k:=by
     have hk':(if i=q then gs 0 else fs i) k:=hk
     rwa[if_pos hiq]at hk'
    exact⟨hiq▸in0 k this,fun _=>this⟩
  . have hk':(if i=q then gs 0 else fs i) k:=hk;rw[if_neg hiq]at hk';exact⟨hk',fun h=>absurd h hiq⟩
 refine⟨h1,h2,h3,h4,F,⟨fun i hi2=>?_,fun i j k hi2 hj2 a b=>?_⟩,fun i k hi2 hk=>?_⟩
 . cases i with
   |zero=>exact gB
   |succ i=>
    have hil:i<J8 G:=by simpa[J8,H9]using hi2
    show(atA (A9 G q A) i).P T w (if i=q then gs 0 else fs i);rw[Z2j G q i A hq]
    by_cases hiq:i=q
    . rw[if_pos hiq,if_pos hiq];exact gA
    . rw[if_neg hiq,if_neg hiq];exact h5.1 i hil
 . have hl:∀i,i+1<J8 (B::A9 G q A)->i<J8 G:=fun i h=>by simpa[J8,H9]using h
   cases i with
   |zero=>cases j with
    |zero=>rfl
    |succ j=>
     exfalso
     obtain⟨b1,b2⟩:=hF1 j k b;have:=h5.2 q j k hq (hl j hj2) (in1 k a) b1;exact h01 k (b2 this.symm) a
   |succ i=>cases j with
    |zero=>
     exfalso
     obtain⟨b1,b2⟩:=hF1 i k a;have:=h5.2 q i k hq (hl i hi2) (in1 k b) b1;exact h01 k (b2 this.symm) b
    |succ j=>
     have:=h5.2 i j k (hl i hi2) (hl j hj2) (hF1 i k a).1 (hF1 j k b).1;omega
 . cases i with
   |zero=>exact h6 q k hq (in1 k hk)
   |succ i=>
    have hil:i<J8 G:=by simpa[J8,H9]using hi2
    exact h6 i k hil (hF1 i k hk).1
theorem Sep.mrg(h:Sep g T w (B::G))(hi:AtR G q A):Sep g T w (A9 G q (X0 [A,B])):=by
 have hlt:Nat.blt (q+1) (J8 (B::G))=true:=by have:=kN hi.lt;simp[J8];omega
 have h2:=h.two (q+1) 0 (by
  simp only[Y4i,List.all_cons,List.all_nil,Bool.and_true,Bool.and_eq_true]
  exact⟨⟨hlt,(by cases q<;>rfl)⟩,by simp[J8]⟩)
 have e1:atA (B::G) (q+1)=A:=hi.at_;have e2:atA (B::G) 0=B:=rfl;rw[e1,e2]at h2;exact Sep.tail (A:=empA) h2
end

section
variable{g:World}{T T':TP}{w w':World}{G:List X1}{q:Nat}{α:Type}{E:En α}{e:TypeId}{v:Value}{l:List α}
theorem Sep.nopen(hS:Sep g T w G)(hi:AtR G q (Z2p E e v l)):∃css,css.length=l.length/\Sep g T w (Q9u E l css none::A9 G q (F5 (Z1y E.sz) e v css)):=by
 obtain⟨F,hF,hn⟩:=hS.getA hi;obtain⟨css,gs,hg1,hg2⟩:=hF;have hlen:css.length=l.length:=(hg1.1 1 (by simp[J8]):(Q9u E l css none).P T w (gs 1)).1
 -- the rows that are told may be another list: take them out of the assertion at once
 obtain⟨h1,h2,h3,h4,fs,h5,h6⟩:=hS;have hq:q<J8 G:=kN hi.lt;have hP:=h5.1 q hq;rw[hi.at_]at hP;obtain⟨css,hP⟩:=hP
 have hS':Sep g T w (A9 G q (X0 [F5 (Z1y E.sz) e v css,Q9u E l css none])):=by
  refine⟨h1,h2,h3,h4,fs,⟨fun i hil=>?_,fun i j k a b=>h5.2 i j k (by rwa[H9]at a) (by rwa[H9]at b)⟩,fun i k a=>h6 i k (by rwa[H9]at a)⟩;rw[H9]at hil;rw[Z2j G q i _ hq]
  by_cases hiq:i=q
  . rw[if_pos hiq,hiq];exact hP
  . rw[if_neg hiq];exact h5.1 i hil
 obtain⟨gs,hg1,hg2⟩:=hP;have hlen:css.length=l.length:=(hg1.1 1 (by simp[J8]):(Q9u E l css none).P T w (gs 1)).1;have hA:AtR (A9 G q (X0 [F5 (Z1y E.sz) e v css,Q9u E l css none])) q (X0 [F5 (Z1y E.sz) e v css,Q9u E l css none]):=⟨by rw[H9];exact hi.lt,by rw[Z2j G q q _ hq,if_pos rfl]⟩;have:=hS'.spl hA
 have hss:∀(L:List X1)(i:Nat)(A B:X1),A9 (A9 L i A) i B=A9 L i B:=by
  intro L
  induction L with
  |nil=>intros;rfl
  |cons X L ih=>intro i A B;cases i with
   |zero=>rfl
   |succ i=>simp[A9,ih]
 rw[hss]at this;exact⟨css,hlen,this⟩
theorem Q6u:∀(L:List X1)(i:Nat)(A B:X1),A9 (A9 L i A) i B=A9 L i B:=by
 intro L
 induction L with
 |nil=>intros;rfl
 |cons X L ih=>intro i A B;cases i with
  |zero=>rfl
  |succ i=>simp[A9,ih]
theorem AtR.set{A B:X1}(hi:AtR G q A):AtR (A9 G q B) q B:=⟨by rw[H9];exact hi.lt,by rw[Z2j G q q _ (kN hi.lt),if_pos rfl]⟩
theorem AtR.succ{A B:X1}(hi:AtR G q A):AtR (B::G) (q+1) A:=⟨by have:=kN hi.lt;simp[J8];omega,hi.at_⟩
theorem Sep.nclose{css:List (Ab)}(hS:Sep g T w (Q9u E l css none::G))(hi:AtR G q (F5 (Z1y E.sz) e v css)):Sep g T w (A9 G q (Z2p E e v l)):=by
 have h:=hS.mrg hi
 have:=h.imp q (hi.set).lt (B:=Z2p E e v l) fun F hF=>by
  rw[hi.set.at_]at hF;exact⟨css,hF⟩
 rwa[Q6u]at this
theorem els_take{css:List (Ab)}{i:Nat}{u:α}{cs:Ab}(hu:l[i]?=some u)(hc:css[i]?=some cs){F:TP}(h:(Q9u E l css none).P T w F):(X0 [Q9u E l css (some i),E.A u cs]).P T w F:=by
 obtain⟨h0,fs,h1,h2,h3,h4⟩:=h;refine⟨fun j=>match j with|0=>fun k=>∃m,m≠i/\fs m k|_=>fs i,⟨fun j hj=>?_,fun a b k ha hb h5 h6=>?_⟩,fun k=>?_⟩
 . have hj':j<2:=hj
   match j,hj' with
   |0,_=>
    refine⟨h0,fun m k=>m≠i/\fs m k,fun m x c hm hx hcc=>?_,fun a b k ha hb=>h2 a b k ha.2 hb.2,fun m k hm=>⟨fun h=>hm.1 (Option.some.inj h).symm,(h3 m k hm.2).2⟩,fun k=>Iff.rfl⟩;have hm':m≠i:=fun h=>hm (by rw[h]);have:=h1 m x c (by simp) hx hcc;have e:(fun k=>m≠i/\fs m k)=fs m:=by funext k;simp[hm']
    show(E.A x c).P T w (fun k=>m≠i/\fs m k);rw[e];exact this
   |1,_=>exact h1 i u cs (by simp) hu hc
 . have ha':a<2:=ha;have hb':b<2:=hb
   match a,ha',b,hb',h5,h6 with
   |0,_,0,_,_,_=>rfl
   |1,_,1,_,_,_=>rfl
   |0,_,1,_,⟨m,hm,hk⟩,h6=>exact absurd (h2 m i k hk h6) hm
   |1,_,0,_,h5,⟨m,hm,hk⟩=>exact absurd (h2 m i k hk h5) hm
 . refine(h4 k).trans ⟨fun⟨m,hm⟩=>?_,fun⟨j,hj,hk⟩=>?_⟩
   . by_cases hmi:m=i
     . exact⟨1,by simp[J8],hmi▸hm⟩
     . exact⟨0,by simp[J8],m,hmi,hm⟩
   . have hj':j<2:=hj
     match j,hj',hk with
     |0,_,⟨m,_,hk⟩=>exact⟨m,hk⟩
     |1,_,hk=>exact⟨i,hk⟩
theorem els_put{css:List (Ab)}{i:Nat}{u:α}{cs:Ab}(hil:i<l.length){F:TP}(h:(X0 [Q9u E l css (some i),E.A u cs]).P T w F):(Q9u E (l.set i u) (css.set i cs) none).P T w F:=by
 obtain⟨gs,g1,g2⟩:=h;obtain⟨h0,fs,h1,h2,h3,h4⟩:(Q9u E l css (some i)).P T w (gs 0):=g1.1 0 (by simp[J8]);have hE:(E.A u cs).P T w (gs 1):=g1.1 1 (by simp[J8])
 have hd:∀k,gs 0 k->gs 1 k->False:=fun k a b=>by
  have:=g1.2 0 1 k (by simp[J8]) (by simp[J8]) a b;omega
 refine⟨by simp[h0],fun m=>if m=i then gs 1 else fs m,fun m x c _ hx hcc=>?_,fun a b k ha hb=>?_,fun m k hm=>?_,fun k=>?_⟩
 . dsimp only
   by_cases hmi:m=i
   . subst hmi;rw[if_pos rfl];rw[List.getElem?_set_self hil]at hx;rw[List.getElem?_set_self (by omega)]at hcc;cases hx;cases hcc;exact hE
   . rw[if_neg hmi];rw[List.getElem?_set_ne (fun h=>hmi h.symm)]at hx hcc;exact h1 m x c (fun h=>hmi (Option.some.inj h).symm) hx hcc
 . by_cases hai:a=i
   . by_cases hbi:b=i
     . rw[hai,hbi]
     . simp only[if_pos hai,if_neg hbi]at ha hb
       exact(hd k ((h4 k).2 ⟨b,hb⟩) ha).elim
   . by_cases hbi:b=i
     . simp only[if_neg hai,if_pos hbi]at ha hb
       exact(hd k ((h4 k).2 ⟨a,ha⟩) hb).elim
     . simp only[if_neg hai,if_neg hbi]at ha hb
       exact h2 a b k ha hb
 . refine⟨by simp,?_⟩;rw[List.length_set]
   by_cases hmi:m=i
   . omega
   . simp only[if_neg hmi]at hm
     exact(h3 m k hm).2
 . refine(g2 k).trans ⟨fun⟨j,hj,hk⟩=>?_,fun⟨m,hm⟩=>?_⟩
   . have hj':j<2:=hj
     match j,hj',hk with
     |0,_,hk=>
      obtain⟨m,hm⟩:=(h4 k).1 hk;have hmi:m≠i:=fun h=>(h3 m k hm).1 (by rw[h]);exact⟨m,by simp only[if_neg hmi];exact hm⟩
     |1,_,hk=>exact⟨i,by simp only[];exact hk⟩
   . by_cases hmi:m=i
     . simp only[if_pos hmi]at hm
       exact⟨1,by simp[J8],hm⟩
     . simp only[if_neg hmi]at hm
       exact⟨0,by simp[J8],(h4 k).2 ⟨m,hm⟩⟩
theorem els_app{css:List (Ab)}{u:α}{cs:Ab}{F:TP}(h:(X0 [Q9u E l css none,E.A u cs]).P T w F):(Q9u E (l++[u]) (css++[cs]) none).P T w F:=by
 obtain⟨gs,g1,g2⟩:=h;obtain⟨h0,fs,h1,h2,h3,h4⟩:(Q9u E l css none).P T w (gs 0):=g1.1 0 (by simp[J8]);have hE:(E.A u cs).P T w (gs 1):=g1.1 1 (by simp[J8])
 have hd:∀k,gs 0 k->gs 1 k->False:=fun k a b=>by
  have:=g1.2 0 1 k (by simp[J8]) (by simp[J8]) a b;omega
 refine⟨by simp[h0],fun m=>if m=l.length then gs 1 else fs m,fun m x c _ hx hcc=>?_,fun a b k ha hb=>?_,fun m k hm=>?_,fun k=>?_⟩
 . dsimp only
   by_cases hmi:m=l.length
   . subst hmi;rw[if_pos rfl];rw[kS (qD _),Nat.sub_self]at hx;rw[kS (by omega),h0,Nat.sub_self]at hcc;cases hx;cases hcc;exact hE
   . rw[if_neg hmi]
     have hml:m<l.length:=by
      rcases Nat.lt_or_ge m (l++[u]).length with h|h
      . simp at h;omega
      . rw[List.getElem?_eq_none h]at hx;cases hx
     rw[kR hml]at hx;rw[kR (by omega)]at hcc;exact h1 m x c (by simp) hx hcc
 . by_cases hai:a=l.length
   . by_cases hbi:b=l.length
     . rw[hai,hbi]
     . simp only[if_pos hai,if_neg hbi]at ha hb
       exact(hd k ((h4 k).2 ⟨b,hb⟩) ha).elim
   . by_cases hbi:b=l.length
     . simp only[if_neg hai,if_pos hbi]at ha hb
       exact(hd k ((h4 k).2 ⟨a,ha⟩) hb).elim
     . simp only[if_neg hai,if_neg hbi]at ha hb
       exact h2 a b k ha hb
 . refine⟨by simp,?_⟩;rw[qW]
   by_cases hmi:m=l.length
   . simp;omega
   . simp only[if_neg hmi]at hm
     have:=(h3 m k hm).2;omega
 . refine(g2 k).trans ⟨fun⟨j,hj,hk⟩=>?_,fun⟨m,hm⟩=>?_⟩
   . have hj':j<2:=hj
     match j,hj',hk with
     |0,_,hk=>
      obtain⟨m,hm⟩:=(h4 k).1 hk;have hmi:m≠l.length:=by have:=(h3 m k hm).2;omega
      exact⟨m,by simp only[if_neg hmi];exact hm⟩
     |1,_,hk=>exact⟨l.length,by simp only[];exact hk⟩
   . by_cases hmi:m=l.length
     . simp only[if_pos hmi]at hm
       exact⟨1,by simp[J8],hm⟩
     . simp only[if_neg hmi]at hm
       exact⟨0,by simp[J8],(h4 k).2 ⟨m,hm⟩⟩

theorem Sep.nfocus{i:Int}{u:α}(hS:Sep g T w G)(hi:AtR G q (Z2p E e v l))(hu:idx l i=some u):
 ∃css cs,Sep g T w (E.A u cs::Q9u E l css (some i.toNat)::A9 G q (Y4j (Z1y E.sz) e v css i.toNat cs)):=by
 obtain⟨h0,h1,h2⟩:=Q2d hu;obtain⟨css,hlen,h⟩:=hS.nopen hi;have hic:i.toNat<css.length:=by omega
 have hix:idx css i=some css[i.toNat]:=by
  unfold idx;rw[if_pos h0];exact kM hic
 obtain⟨cs,hr,h⟩:=h.focus (q:=q+1) (hi.set.succ) hix;have h:=Sep.imp (B:=X0 [Q9u E l css (some i.toNat),E.A u css[i.toNat]]) h 0 (by simp[A9,J8]) fun F hF=>els_take h2 (kM hic) hF;have h:Sep g T w (E.A u css[i.toNat]::_):=h.spl (q:=0) ⟨by simp[A9,J8],rfl⟩;refine⟨css,css[i.toNat],?_⟩;have hcs:cs=css[i.toNat]:=hr.1;subst hcs;have e:A9 (A9 G q (F5 (Z1y E.sz) e v css)) q (Y4j (Z1y E.sz) e v css i.toNat css[i.toNat])=A9 G q (Y4j (Z1y E.sz) e v css i.toNat css[i.toNat]):=Q6u _ _ _ _;rw[<-e];exact h
theorem Sep.nunfocus{i:Nat}{u:α}{css:List (Ab)}{cs:Ab}(hS:Sep g T w (E.A u cs::Q9u E l css (some i)::G))(hi:AtR G q (Y4j (Z1y E.sz) e v css i cs))(hil:i<l.length):Sep g T w (A9 G q (Z2p E e v (l.set i u))):=by
 obtain⟨F,hF,_⟩:=hS.get 0 (by simp[J8]);have hlen:=E.len hF;have hone:=E.one hF;have h:=hS.unfocus (q:=q+2) (u:=cs) hi.succ.succ ⟨rfl,hlen,hone⟩;have h:Sep g T w (E.A u cs::Q9u E l css (some i)::A9 G q (F5 (Z1y E.sz) e v (css.set i cs))):=h;have h:=h.mrg (q:=0) (A:=Q9u E l css (some i)) ⟨by simp[J8],rfl⟩;have h:=Sep.imp (B:=Q9u E (l.set i u) (css.set i cs) none) h 0 (by simp[A9,J8]) fun F hF=>els_put hil hF;have h:Sep g T w (Q9u E (l.set i u) (css.set i cs) none::A9 G q (F5 (Z1y E.sz) e v (css.set i cs))):=h;have h:=h.nclose (q:=q) hi.set
 rwa[Q6u]at h
theorem Sep.nslv(hS:Sep g T w G)(hi:AtR G q (Z2p E e v l)):∃css:List (Ab),css.length=l.length/\SlV (Z1y E.sz) T w v css:=by
 obtain⟨css,hlen,h⟩:=hS.nopen hi;obtain⟨F,hF,_⟩:=h.getA hi.set.succ;exact⟨css,hlen,hF.1.v⟩
theorem Sep.nhd{i:Int}{u:α}{sz:Nat}(hS:Sep g T w G)(hi:AtR G q (Z2p E e v l))(hu:idx l i=some u)(hz:E.sz=sz):∃b off k cap,v= .slice (some ⟨b,k,none⟩) l.length cap/\0<=i/\i<l.length/\off=k+i.toNat*sz:=by
 subst hz;obtain⟨h0,h1,h2⟩:=Q2d hu;obtain⟨css,hlen,h⟩:=hS.nslv hi;obtain⟨a,cap,hv,_,_,h7⟩:=h
 rcases h7 with h7|⟨b,off,rfl,_⟩
 . rw[h7]at hlen;simp at hlen;omega
 . exact⟨b,_,off,cap,by rw[hv,hlen],h0,h1,rfl⟩
theorem Sep.nunfocus0{i:Int}{u:α}{css:List (Ab)}{cs:Ab}(hS:Sep g T w (E.A u cs::Q9u E l css (some i.toNat)::G))(hi:AtR G q (Y4j (Z1y E.sz) e v css i.toNat cs))(hu:idx l i=some u):Sep g T w (A9 G q (Z2p E e v l)):=by
 obtain⟨h0,h1,h2⟩:=Q2d hu;have h:=hS.nunfocus hi (by omega)
 have e:l.set i.toNat u=l:=by
  apply List.ext_getElem?;intro j
  by_cases hj:i.toNat=j
  . subst hj;rw[List.getElem?_set_self (by omega),h2]
  . rw[List.getElem?_set_ne hj]
 rwa[e]at h
theorem idx_ltn{i:Int}{u:α}(hu:idx l i=some u):i.toNat<l.length:=by
 obtain⟨h0,h1,_⟩:=Q2d hu;omega
end

theorem X6m{A B:X1}{T F:TP}{w:World}(h:(X0 [A,B]).P T w F):(X0 [B,A]).P T w F:=by
 obtain⟨gs,g1,g2⟩:=h;refine⟨fun i=>gs (1-i),⟨fun i hi=>?_,fun i j k hi hj a b=>?_⟩,fun k=>(g2 k).trans ⟨fun⟨i,hi,hk⟩=>?_,fun⟨i,hi,hk⟩=>?_⟩⟩
 . have hi':i<2:=hi
   match i,hi' with
   |0,_=>exact g1.1 1 (by simp[J8])
   |1,_=>exact g1.1 0 (by simp[J8])
 . have hi':i<2:=hi;have hj':j<2:=hj;have:=g1.2 (1-i) (1-j) k (by simp[J8];omega) (by simp[J8];omega) a b;omega
 . have hi':i<2:=hi;refine⟨1-i,by simp[J8];omega,?_⟩;show gs (1-(1-i)) k;rw[show 1-(1-i)=i by omega];exact hk
 . exact⟨1-i,by simp[J8];omega,hk⟩
section
variable{P:Program}{n:NF}{J:Nat->Value}{L:List (Nat×Value)}{w:World}{KK:Act->World->Prop}{Q:Ac}{g:World}{T:TP}{G:List X1}{q d:Nat}{x y:Operand}{t ty:TypeId}{pos:String}{aft:Ag}{v:Value}
theorem apN{α:Type}{E:En α}{e:TypeId}{l:List α}{u:α}{cs:Ab}{v2:Value}(hS:Sep g T w (E.A u cs::G))(hi:AtR G q (Z2p E e v l))(hx:ev n J L x=v)(hy:ev n J L y=v2)(h2:SlV (Z1y E.sz) T w v2 [cs])
 (ht:P.underlying t=some (.slice e)) (he:Q1g P e E.sz) (hroom:l.length+1<=8589934592)
 (k:∀w' a m c,Im T w T w'->Sep g T w' (A9 G q (Z2p E e (.slice a m c) (l++[u])))->KK (env n J ((d,.slice a m c)::L)) w'):
 Oper.wp P ⟨some d,.call ⟨.builtin .append,#[x,y],#[t,t]⟩,ty,pos,aft,none⟩ (env n J L) w KK Q:=by
 obtain⟨css,hlen,h⟩:=hS.nopen (q:=q+1) hi.succ;have h:Sep g T w (Q9u E l css none::E.A u cs::A9 G q (F5 (Z1y E.sz) e v css)):=h;refine apO (q:=q+2) h hi.set.succ.succ hx hy h2 ht he (by simp;omega) fun w' a m c him h=>k w' a m c him ?_;have h:Sep g T w' (Q9u E l css none::E.A u cs::A9 (A9 G q (F5 (Z1y E.sz) e v css)) q (F5 (Z1y E.sz) e (.slice a m c) (css++[cs]))):=h;rw[Q6u]at h;have h:=h.mrg (q:=0) (A:=E.A u cs) ⟨by simp[J8],rfl⟩;have h:=Sep.imp (B:=Q9u E (l++[u]) (css++[cs]) none) h 0 (by simp[A9,J8]) fun F hF=>els_app (X6m hF);have h:Sep g T w' (Q9u E (l++[u]) (css++[cs]) none::A9 G q (F5 (Z1y E.sz) e (.slice a m c) (css++[cs]))):=h;have h:=h.nclose (q:=q) hi.set
 rwa[Q6u]at h
theorem r_lnN{α:Type}{E:En α}{e:TypeId}{l:List α}(hS:Sep g T w G)(hi:AtR G q (Z2p E e v l))(hx:ev n J L x=v)(ht:P.underlying t=some (.slice e)){w1:World}:
 (execOp (ev n J L) ⟨some d,.call ⟨.builtin .len,#[x],#[t]⟩,ty,pos,aft,none⟩).run P w1= .ok (.value (.int .i64 (l.length:Int))) w1:=by
 obtain⟨css,hlen,h⟩:=hS.nslv hi;rw[<-hlen];exact r_lnV hx h ht
end

def IpR(pv v:Value)(sz:Nat)(m:Int):Prop:=(m<0->pv= .pointer none)/\(0<=m->∀b k n cap,v= .slice (some ⟨b,k,none⟩) n cap->pv= .pointer (some ⟨b,k+m.toNat*sz,none⟩))
theorem IpR.at{pv v:Value}{sz b k n cap:Nat}{m:Int}(h:IpR pv v sz m)(h0:0<=m)(hv:v= .slice (some ⟨b,k,none⟩) n cap):pv= .pointer (some ⟨b,k+m.toNat*sz,none⟩):=h.2 h0 b k n cap hv
theorem SlV.nilOr{α:Type}{r:Rp α}{T:TP}{w:World}{l:List α}{a:OA}{c:Nat}(h:SlV r T w (.slice a l.length c) l):(a=none/\l=[])\/a.isNone=false:=by
 obtain⟨a',cap,hv,h5,h6,h7⟩:=h;cases hv
 rcases h7 with rfl|⟨b,off,rfl,_⟩
 . cases a with
   |none=>exact .inl ⟨rfl,rfl⟩
   |some a=>exact .inr rfl
 . exact .inr rfl
theorem Y7y{sz:Nat}:∀css:List (Ab),(∀c∈css,c.length=sz)->css.flatten.length=css.length*sz
 |[],_=>by simp
 |c::css,h=>by
  rw[List.flatten_cons,qW,Y7y css (fun x hx=>h x (by simp[hx])),h c (by simp),qY,Nat.succ_mul]
  omega
theorem X6z{sz:Nat}{css:List (Ab)}(h:∀c∈css,c.length=sz){i:Nat}(hi:i<=css.length):css.flatten.take (i*sz)=(css.take i).flatten:=by
 have e:css.flatten=(css.take i).flatten++(css.drop i).flatten:=by rw[<-List.flatten_append,List.take_append_drop]
 have hl:(css.take i).flatten.length=i*sz:=by
  rw[Y7y _ (fun c hc=>h c (List.mem_of_mem_take hc)),qE,Nat.min_eq_left hi]
 rw[e,<-hl];exact List.take_left
section
variable{P:Program}{n:NF}{J:Nat->Value}{L:List (Nat×Value)}{w:World}{KK:Act->World->Prop}{Q:Ac}{g:World}{T:TP}{G:List X1}{q d:Nat}{x:Operand}{t ty:TypeId}{pos:String}{aft:Ag}{v:Value}
theorem r_slV{α:Type}{r:Rp α}{ad:OA}{l u:List α}{k cap sz:Nat}{e:TypeId}{lo hi:Option Operand}{a b:Int}{T1:TP}{w1:World}
 (hx:ev n J L x= .slice ad k cap) (h:SlV r T1 w1 (.slice ad k cap) l) (hlo:oev n J L lo 0 a) (hhi:oev n J L hi l.length b) (hs:sub l a b=some u)
 (ht:P.underlying t=some (.slice e)) (hz:∀w,(sizeOf e).run P w= .ok sz w) (hr:r.sz=sz)
 (he:Value.slice (if cap=a.toNat then ad else ad.map (·.add (a.toNat*r.sz))) (b.toNat-a.toNat) (cap-a.toNat)=v):
 (execOp (ev n J L) ⟨some d,.slice t x lo hi none,ty,pos,aft,none⟩).run P w= .ok (.value v) w:=by
 subst hr;obtain⟨h0,h1,h2,_⟩:=Z1s hs
 obtain⟨hc,rfl⟩:l.length<=cap/\k=l.length:=by
  obtain⟨_,_,hv,h5,_⟩:=h;cases hv;exact⟨h5,rfl⟩
 have hr:=r_sl (w:=w) (P:=P) (d:=d) (ty:=ty) (pos:=pos) (aft:=aft) hx hlo hhi h0 h1 h2 hc ht hz;rw[he]at hr;exact hr
theorem Sep.cutA{α:Type}{r:Rp α}{e:TypeId}{ad:OA}{k cap:Nat}{l u:List α}{b:Int}(hS:Sep g T w G)(hi:AtR G q (F5 r e (.slice ad k cap) l))(hs:sub l 0 b=some u):
 ∃a' n' c',Value.slice (if cap=(0:Int).toNat then ad else ad.map (·.add ((0:Int).toNat*r.sz))) (b.toNat-(0:Int).toNat) (cap-(0:Int).toNat)= .slice a' n' c'/\Sep g T w (A9 G q (F5 r e (.slice a' n' c') u)):=by
 obtain⟨h0,h1,h2,rfl⟩:=Z1s hs;have hlen:((l.take b.toNat).drop (0:Int).toNat).length=b.toNat:=by simp;omega
 have hu:(l.take b.toNat).drop (0:Int).toNat=l.take b.toNat:=rfl
 have hea:(if cap=(0:Int).toNat then ad else ad.map (·.add ((0:Int).toNat*r.sz)))=ad:=by
  split
  . rfl
  . cases ad with
    |none=>rfl
    |some a=>simp[Addr.add]
 refine⟨ad,((l.take b.toNat).drop (0:Int).toNat).length,cap,by rw[hea,hlen];rfl,hS.imp q hi.lt fun F hF=>?_⟩;rw[hi.at_]at hF;obtain⟨⟨css,c1,c2,c3⟩,hF⟩:=hF;have hsz:=OwS.sizes c1 c3;rw[hlen,hu];refine⟨⟨css.take b.toNat,by rw[qE,qE,c1],⟨?_,?_⟩,fun i cs x hc hx=>?_⟩,fun k=>(hF k).trans (by cases ad<;>rfl)⟩
 . rw[Y7y _ (fun c hc=>hsz c (List.mem_of_mem_take hc)),qE,qE,c1]
 . rcases c2.2 with⟨hv,hn⟩|⟨g',cap',cur,hv,hb,hgg,hnc,hmx,hcur,htake⟩
   . cases hv;have:b.toNat=0:=by omega
     rw[this];exact .inl ⟨rfl,by simp⟩
   . cases hv;have hbl:b.toNat<=l.length:=by omega
     refine .inr ⟨g',cap,cur,?_,hb,hgg,by rw[qE];omega,hmx,hcur,?_⟩
     . rw[qE,Nat.min_eq_left hbl]
     . rw[qE,Nat.min_eq_left hbl,<-X6z hsz (by omega),<-htake,List.take_take,Nat.min_eq_left (Nat.mul_le_mul_right _ hbl)]
 . rw[List.getElem?_take]at hc hx
   split at hc
   . rename_i h
     rw[if_pos h]at hx;exact c3 i cs x hc hx
   . cases hc
end
def Y6c{α:Type}(E:En α)(v:Value):O3 α->X1
 | .nil=>pA (v= .pointer none) empA
 | .dead=>empA
 | .some x=>exA fun b:Nat=>exA fun cs:Ab=>pA (v= .pointer (some ⟨b,0,none⟩)) (X0 [K7 b cs,E.A x cs])

section
variable{g:World}{T T':TP}{w w':World}{G:List X1}{q:Nat}{A B:X1}
theorem Sep.exQ{ι:Type}{f:ι->X1}(hS:Sep g T w G)(hi:AtR G q (exA f)):∃a,Sep g T w (A9 G q (f a)):=by
 obtain⟨h1,h2,h3,h4,fs,h5,h6⟩:=hS;have hq:q<J8 G:=kN hi.lt;have hP:=h5.1 q hq;rw[hi.at_]at hP;obtain⟨a,hP⟩:=hP;refine⟨a,h1,h2,h3,h4,fs,⟨fun i hil=>?_,fun i j k a b=>h5.2 i j k (by rwa[H9]at a) (by rwa[H9]at b)⟩,fun i k a=>h6 i k (by rwa[H9]at a)⟩;rw[H9]at hil;rw[Z2j G q i _ hq]
 by_cases hiq:i=q
 . rw[if_pos hiq,hiq];exact hP
 . rw[if_neg hiq];exact h5.1 i hil
theorem Sep.pQ{p:Prop}(hS:Sep g T w G)(hi:AtR G q (pA p A)):p/\Sep g T w (A9 G q A):=by
 obtain⟨F,hF,_⟩:=hS.getA hi;exact⟨hF.1,hS.imp q hi.lt fun F hF=>by rw[hi.at_]at hF;exact hF.2⟩
end

section
variable{g:World}{T T':TP}{w w':World}{G:List X1}{q:Nat}{α:Type}{E:En α}{v:Value}{o:O3 α}{x:α}{b:Nat}{cs:Ab}
theorem Sep.optE(hS:Sep g T w G)(hi:AtR G q (Y6c E v o))(ho:o.get=some x):∃b cs,v= .pointer (some ⟨b,0,none⟩)/\Sep g T w (E.A x cs::A9 G q (K7 b cs)):=by
 have ho:=O3.get_some ho;subst ho;obtain⟨b,h⟩:=hS.exQ (f:=fun b:Nat=>exA fun cs:Ab=>pA (v= .pointer (some ⟨b,0,none⟩)) (X0 [K7 b cs,E.A x cs])) hi;obtain⟨cs,h⟩:=h.exQ hi.set;rw[Q6u]at h;obtain⟨hv,h⟩:=h.pQ hi.set;rw[Q6u]at h;have h:=h.spl hi.set;rw[Q6u]at h;exact⟨b,cs,hv,h⟩
theorem Sep.optE2(hS:Sep g T w G)(hi:AtR G q (Y6c E (.pointer (some ⟨b,0,none⟩)) o))(ho:o.get=some x):∃cs,Sep g T w (E.A x cs::A9 G q (K7 b cs)):=by
 obtain⟨b',cs,hv,h⟩:=hS.optE hi ho;cases hv;exact⟨cs,h⟩
theorem Sep.optI(hS:Sep g T w (E.A x cs::G))(hi:AtR G q (K7 b cs)):Sep g T w (A9 G q (Y6c E (.pointer (some ⟨b,0,none⟩)) (.some x))):=by
 have h:=hS.mrg hi
 have:=h.imp q (hi.set).lt (B:=Y6c E (.pointer (some ⟨b,0,none⟩)) (.some x)) fun F hF=>by
  rw[hi.set.at_]at hF;exact⟨b,cs,rfl,hF⟩
 rwa[Q6u]at this
theorem Sep.optI0(hS:Sep g T w (E.A x cs::G))(hi:AtR G q (K7 b cs))(ho:o.get=some x):Sep g T w (A9 G q (Y6c E (.pointer (some ⟨b,0,none⟩)) o)):=by
 have ho:=O3.get_some ho;subst ho;exact hS.optI hi
theorem Sep.optN(E:En α)(h:Sep g T w G):Sep g T w (Y6c E (.pointer none) .nil::G):=
 h.cons (M:=noB) (Inn.refl h.lt (qD _)) (fun k hk=>hk) (F:=fun _=>False) ⟨rfl,fun _ h=>h⟩ fun k hk=>hk.elim
theorem Sep.optD(E:En α)(v:Value)(h:Sep g T w G):Sep g T w (Y6c E v .dead::G):=
 h.cons (M:=noB) (Inn.refl h.lt (qD _)) (fun k hk=>hk) (F:=fun _=>False) (fun _ h=>h) fun k hk=>hk.elim
theorem Sep.optV{t:Bool}(hS:Sep g T w G)(hi:AtR G q (Y6c E v o))(ht:o.isNil=some t):∃a:OA,v= .pointer a/\a.isNone=t:=by
 cases o with
 |nil=>
  obtain⟨F,hF,_⟩:=hS.getA hi;cases ht;exact⟨none,hF.1,rfl⟩
 |dead=>cases ht
 |some x=>
  obtain⟨b,cs,hv,_⟩:=hS.optE hi rfl;cases ht;exact⟨_,hv,rfl⟩
/-- A slice of one element, with what it owns. -/
theorem Sep.nlit{e:TypeId}(hS:Sep g T w (E.A x cs::G))(hi:AtR G q (F5 (Z1y E.sz) e v [cs])):Sep g T w (A9 G q (Z2p E e v [x])):=by
 have h:=Sep.imp (B:=Q9u E [x] [cs] none) hS 0 (by simp[J8]) fun F hF=>by
  refine⟨rfl,fun i k=>i=0/\F k,fun i y c _ hy hc=>?_,fun i j k a b=>a.1.trans b.1.symm,fun i k a=>⟨by simp,by rw[a.1];exact Nat.zero_lt_one⟩,fun k=>⟨fun h=>⟨0,rfl,h⟩,fun⟨_,_,h⟩=>h⟩⟩;cases i with
  |zero=>
   cases hy;cases hc;have e:(fun k=>0=0/\F k)=F:=by funext k;simp
   show(E.A x cs).P T w (fun k=>0=0/\F k);rw[e];exact hF
  |succ i=>simp at hy
 have h:Sep g T w (Q9u E [x] [cs] none::G):=h;exact h.nclose (q:=q) hi
end
section
variable{P:Program}{n:NF}{J:Nat->Value}{L:List (Nat×Value)}{w:World}{g:World}{T:TP}{G:List X1}{q d:Nat}{x y:Operand}{t ty t2:TypeId}{pos:String}{aft:Ag}{v:Value}{α:Type}{E:En α}{o:O3 α}
theorem r_opn{e:TypeId}{r:Bool}(hx:ev n J L x=v)(hy:ev n J L y= .pointer none)(hA:∃a:OA,v= .pointer a/\a.isNone=r)(ht:P.underlying t=some (.pointer e)):
 (execOp (ev n J L) ⟨some d,.binOp .neq t x y t2,ty,pos,aft,none⟩).run P w= .ok (.value (.bool (!r))) w:=by
 obtain⟨a,rfl,ha⟩:=hA;exact Y7a hx hy (by rw[ha]) ht
theorem r_ope{e:TypeId}{r:Bool}(hx:ev n J L x=v)(hy:ev n J L y= .pointer none)(hA:∃a:OA,v= .pointer a/\a.isNone=r)(ht:P.underlying t=some (.pointer e)):
 (execOp (ev n J L) ⟨some d,.binOp .eql t x y t2,ty,pos,aft,none⟩).run P w= .ok (.value (.bool r)) w:=by
 obtain⟨a,rfl,ha⟩:=hA;exact r_pne hx hy ha ht
variable{l u:List α}{e:TypeId}
/-- The first elements of a slice of owners. -/
theorem r_slN{ad:OA}{k cap sz:Nat}{lo hi:Option Operand}{b:Int}
 (hx:ev n J L x= .slice ad k cap) (hS:Sep g T w G) (hi':AtR G q (Z2p E e (.slice ad k cap) l)) (hlo:oev n J L lo 0 0) (hhi:oev n J L hi l.length b) (hs:sub l 0 b=some u)
 (ht:P.underlying t=some (.slice e)) (hz:∀w,(sizeOf e).run P w= .ok sz w) (hr:E.sz=sz)
 (he:Value.slice (if cap=(0:Int).toNat then ad else ad.map (·.add ((0:Int).toNat*E.sz))) (b.toNat-(0:Int).toNat) (cap-(0:Int).toNat)=v) {w1:World}:
 (execOp (ev n J L) ⟨some d,.slice t x lo hi none,ty,pos,aft,none⟩).run P w1= .ok (.value v) w1:=by
 obtain⟨css,hlen,h⟩:=hS.nslv hi';obtain⟨h0,h1,h2,_⟩:=Z1s hs
 have hs2:sub css 0 b=some (css.take b.toNat):=by
  unfold sub;rw[if_pos ⟨h0,h1,by rw[hlen];exact h2⟩];rfl
 exact r_slV hx h hlo (by rw[hlen];exact hhi) hs2 ht hz hr he
end
theorem Sep.impS{g w:World}{T:TP}{L:List X1}{B:X1}(h:Sep g T w L)(i:Nat)(hi:Nat.blt i (J8 L)=true)(hx:∀F,(atA L i).P T w F->∃F',B.P T w F'/\∀k,F' k->F k):Sep g T w (A9 L i B):=
 h.put i hi (Inn.refl h.lt (qD _):Inn w.heap.size noB T w T w) fun F hF hn=>by
  obtain⟨F',h1,h2⟩:=hx F hF
  exact⟨fun k hk=>hk.elim,F',h1,fun k hk=>⟨.inl (h2 k hk),hn k (h2 k hk)⟩⟩
/-- The first elements of a slice of owners alone. -/
theorem Sep.ncutA{g w:World}{T:TP}{G:List X1}{q k cap:Nat}{α:Type}{E:En α}{e:TypeId}{l u:List α}{ad:OA}{b:Int}(hS:Sep g T w G)(hi:AtR G q (Z2p E e (.slice ad k cap) l))(hs:sub l 0 b=some u):
 ∃a' n' c',Value.slice (if cap=(0:Int).toNat then ad else ad.map (·.add ((0:Int).toNat*E.sz))) (b.toNat-(0:Int).toNat) (cap-(0:Int).toNat)= .slice a' n' c'/\Sep g T w (A9 G q (Z2p E e (.slice a' n' c') u)):=by
 obtain⟨css,hlen,h⟩:=hS.nopen hi;obtain⟨h0,h1,h2,rfl⟩:=Z1s hs;have hu:(l.take b.toNat).drop (0:Int).toNat=l.take b.toNat:=rfl;rw[hu]
 have hs2:sub css 0 b=some (css.take b.toNat):=by
  unfold sub;rw[if_pos ⟨h0,h1,by rw[hlen];exact h2⟩];rfl
 have hq:q<J8 G:=kN hi.lt
 have h:=h.impS (B:=Q9u E (l.take b.toNat) (css.take b.toNat) none) 0 (by simp[J8]) fun F hF=>by
  obtain⟨g0,fs,g1,g2,g3,g4⟩:=hF;refine⟨fun k=>∃i,i<b.toNat/\fs i k,⟨by simp[g0],fun i k=>i<b.toNat/\fs i k,fun i x c hn hx hc=>?_,fun i j k p q=>g2 i j k p.2 q.2,fun i k p=>⟨(g3 i k p.2).1,?_⟩,fun k=>Iff.rfl⟩,fun k ⟨i,_,hk⟩=>(g4 k).2 ⟨i,hk⟩⟩
  . have hib:i<b.toNat:=by
     rcases Nat.lt_or_ge i b.toNat with z|z
     . exact z
     . rw[List.getElem?_take,if_neg (by omega)]at hx;cases hx
    rw[List.getElem?_take,if_pos hib]at hx hc;have ef:(fun k=>i<b.toNat/\fs i k)=fs i:=by funext k;simp[hib]
    show(E.A x c).P T w (fun k=>i<b.toNat/\fs i k);rw[ef];exact g1 i x c hn hx hc
  . have:=(g3 i k p.2).2;rw[qE];omega
 have h:Sep g T w (Q9u E (l.take b.toNat) (css.take b.toNat) none::A9 G q (F5 (Z1y E.sz) e (.slice ad k cap) css)):=h
 have hl2:Nat.blt (q+1) (J8 (Q9u E (l.take b.toNat) (css.take b.toNat) none::A9 G q (F5 (Z1y E.sz) e (.slice ad k cap) css)))=true:=by
  have:Nat.blt q (J8 (A9 G q (F5 (Z1y E.sz) e (.slice ad k cap) css)))=true:=by rw[H9];exact hi.lt
  exact this
 obtain⟨a',n',c',he,h'⟩:=h.cutA (q:=q+1) ⟨hl2,by show atA (A9 G q _) q=_;rw[Z2j G q q _ hq,if_pos rfl]⟩ hs2;refine⟨a',n',c',he,?_⟩;have h':Sep g T w (Q9u E (l.take b.toNat) (css.take b.toNat) none::A9 (A9 G q (F5 (Z1y E.sz) e (.slice ad k cap) css)) q (F5 (Z1y E.sz) e (.slice a' n' c') (css.take b.toNat))):=h';rw[Q6u]at h';have h':=h'.nclose (q:=q) ⟨by rw[H9];exact hi.lt,by rw[Z2j G q q _ hq,if_pos rfl]⟩
 rwa[Q6u]at h'
section
variable{P:Program}{n:NF}{J:Nat->Value}{L:List (Nat×Value)}{w:World}{d:Nat}{ty:TypeId}{pos:String}{aft:Ag}{x y:Operand}{t:TypeId}
theorem r_axi{cs:Ab}{k:IntKind}{i:Int}{u:Value}{e:TypeId}{m:Nat}(hx:ev n J L x= .agg cs.toArray)(hy:ev n J L y= .int k i)(hi:idx cs i=some u)(hm:cs.length=m)(ht:P.underlying t=some (.array m e))(hs:∀w,(sizeOf e).run P w= .ok 1 w)(hg:∀w,(isAgg e).run P w= .ok false w):
 (execOp (ev n J L) ⟨some d,.index t x y,ty,pos,aft,none⟩).run P w= .ok (.value u) w:=by
 subst hm;obtain⟨h0,h1,h2⟩:=Q2d hi;have h3:i.toNat<cs.length:=by omega
 rw[kM h3]at h2;cases h2
 simp[execOp,Instr.index,hx,hy,asIntOf,run_underlying ht,h0,h1,hs,part,hg,h3]
theorem idx_map{α β:Type}(f:α->β){l:List α}{i:Int}{u:α}(h:idx l i=some u):idx (l.map f) i=some (f u):=by
 obtain⟨h0,h1,h2⟩:=Q2d h;unfold idx;rw[if_pos h0,List.getElem?_map,h2]
 rfl
end
section
variable{P:Program}{n:NF}{J:Nat->Value}{L:List (Nat×Value)}{w:World}{d:Nat}{ty:TypeId}{pos:String}{aft:Ag}{x y:Operand}{t t2:TypeId}
end
def Gi(T:TP)(w:World)(g:Nat):Prop:=T g/\∃m,w.cell? ⟨g,0,none⟩=some (.int .i64 m)
theorem Gi.mono{T T':TP}{w w':World}{g:Nat}(h:Gi T w g)(i:Im T w T' w'):Gi T' w' g:=by
 obtain⟨h1,m,h2⟩:=h;refine⟨(i g h1).1,m,?_⟩;rw[<-h2]
 simp only[World.cell?,(i g h1).2]
structure Z9q{α β:Type}(F:Rp α->Rp β):Prop where
 sz:∀r r',r.sz=r'.sz->(F r).sz=(F r').sz
 mono:∀{r r':Rp α}{T w},r.sz=r'.sz->(∀cs x,r.rp T w cs x->r'.rp T w cs x)->∀{cs x},(F r).rp T w cs x->(F r').rp T w cs x
 cont:∀{D:Nat->Rp α}{U:Rp α}{T w},(∀d,(D d).sz=U.sz)->(∀d cs x,(D d).rp T w cs x->(D (d+1)).rp T w cs x)->(∀cs x,U.rp T w cs x->∃d,(D d).rp T w cs x)->∀{cs x},(F U).rp T w cs x->∃d,(F (D d)).rp T w cs x
theorem step_le{α:Type}{D:Nat->Rp α}{T:TP}{w:World}(h:∀d cs x,(D d).rp T w cs x->(D (d+1)).rp T w cs x){d d':Nat}(hd:d<=d'){cs:Ab}{x:α}(hx:(D d).rp T w cs x):(D d').rp T w cs x:=by
 induction hd with
 |refl=>exact hx
 |step _ ih=>exact h _ _ _ ih
theorem gId{α:Type}:Z9q (fun r:Rp α=>r):=⟨fun _ _ h=>h,fun _ h _ _ hx=>h _ _ hx,fun _ _ h _ _ hx=>h _ _ hx⟩
theorem gK{α β:Type}(c:Rp β):Z9q (fun _:Rp α=>c):=⟨fun _ _ _=>rfl,fun _ _ _ _ hx=>hx,fun _ _ _ _ _ hx=>⟨0,hx⟩⟩
theorem Q3c{α β γ:Type}{F:Rp α->Rp β}{G:Rp α->Rp γ}(hF:Z9q F)(hG:Z9q G):Z9q (fun r=>E7 (F r) (G r)):=by
 refine⟨fun r r' h=>?_,fun h1 h2 cs x hx=>?_,fun h1 h2 h3 cs x hx=>?_⟩
 . show(F r).sz+(G r).sz=(F r').sz+(G r').sz;rw[hF.sz r r' h,hG.sz r r' h]
 . obtain⟨c,d,e,a,b⟩:=hx;exact⟨c,d,e,hF.mono h1 h2 a,hG.mono h1 h2 b⟩
 . rename_i D U T w
   obtain⟨c,d,e,a,b⟩:=hx;obtain⟨m,hm⟩:=hF.cont h1 h2 h3 a;obtain⟨k,hk⟩:=hG.cont h1 h2 h3 b;have up:∀{p q:Nat},p<=q->∀cs x,(D p).rp T w cs x->(D q).rp T w cs x:=fun hpq cs x=>step_le h2 hpq;exact⟨max m k,c,d,e,hF.mono ((h1 _).trans (h1 _).symm) (up (Nat.le_max_left m k)) hm,hG.mono ((h1 _).trans (h1 _).symm) (up (Nat.le_max_right m k)) hk⟩
theorem gIso{α β γ:Type}{F:Rp α->Rp β}(f:γ->β)(hF:Z9q F):Z9q (fun r=>(F r).iso f):=
 ⟨fun r r' h=>hF.sz r r' h,fun h1 h2 _ _ hx=>hF.mono h1 h2 hx,fun h1 h2 h3 _ _ hx=>hF.cont h1 h2 h3 hx⟩
theorem SlR.imp{α:Type}{r r':Rp α}{T:TP}{w:World}{v:Value}{l:List α}(hs:r.sz=r'.sz)(h:∀(i:Nat)(x:α)(cs:Ab),l[i]?=some x->r.rp T w cs x->r'.rp T w cs x)(hl:SlR r T w v l):SlR r' T w v l:=by
 obtain⟨a,cap,e,h1,h2,h3⟩:=hl;refine⟨a,cap,e,h1,h2,?_⟩
 rcases h3 with h3|⟨b,off,ha,hT,hx⟩
 . exact .inl h3
 . exact .inr ⟨b,off,ha,hT,fun i x hi=>let⟨cs,k1,k2⟩:=hx i x hi;⟨cs,h i x cs hi k1,hs▸k2⟩⟩
theorem Y4n{p:Nat->Nat->Prop}(hp:∀i d,p i d->p i (d+1)):∀n,(∀i,i<n->∃d,p i d)->∃d,∀i,i<n->p i d
 |0,_=>⟨0,fun i h=>by omega⟩
 |n+1,h=>by
  obtain⟨d,hd⟩:=Y4n hp n fun i hi=>h i (by omega)
  obtain⟨e,he⟩:=h n (by omega)
  have up:∀i a b,a<=b->p i a->p i b:=fun i a b hab ha=>by
   induction hab with
   |refl=>exact ha
   |step _ ih=>exact hp _ _ ih
  refine⟨max d e,fun i hi=>?_⟩
  by_cases hin:i=n
  . subst hin;exact up _ _ _ (Nat.le_max_right d e) he
  . exact up _ _ _ (Nat.le_max_left d e) (hd i (by omega))
theorem gSl{α β:Type}{F:Rp α->Rp β}(hF:Z9q F):Z9q (fun r=>rSl (F r)):=by
 refine⟨fun r r' h=>rfl,fun h1 h2 cs x hx=>?_,fun h1 h2 h3 cs l hx=>?_⟩
 . obtain⟨v,e,hs⟩:=hx;exact⟨v,e,SlR.imp (hF.sz _ _ h1) (fun _ _ _ _ hh=>hF.mono h1 h2 hh) hs⟩
 . rename_i D U T w
   obtain⟨v,e,a,cap,e2,k1,k2,k3⟩:=hx
   rcases k3 with rfl|⟨b,off,ha,hT,hx⟩
   . exact⟨0,v,e,a,cap,e2,k1,k2,.inl rfl⟩
   . have hstep:∀d cs x,(F (D d)).rp T w cs x->(F (D (d+1))).rp T w cs x:=fun d cs x hh=>hF.mono ((h1 _).trans (h1 _).symm) (h2 d) hh
     have hb:=Y4n (p:=fun i d=>∀x,l[i]?=some x->∃cs,(F (D d)).rp T w cs x/\cellsAt w b (off+i*(F U).sz) cs)
      (fun i d hd x hx=>let⟨cs,q1,q2⟩:=hd x hx;⟨cs,hstep _ _ _ q1,q2⟩) l.length (fun i hi=>by
       obtain⟨cs,q1,q2⟩:=hx i l[i] (kM hi);obtain⟨d,hd⟩:=hF.cont h1 h2 h3 q1;refine⟨d,fun x hx=>?_⟩;rw[kM hi]at hx;cases hx;exact⟨cs,hd,q2⟩)
     obtain⟨d,hd⟩:=hb;refine⟨d,v,e,a,cap,e2,k1,k2,.inr ⟨b,off,ha,hT,fun i x hi=>?_⟩⟩;rw[hF.sz (D d) U (h1 d)];exact hd i (List.getElem?_eq_some_iff.1 hi).1 x hi

def rNo{α:Type}(k:Nat)(ag:Bool):Rp α:=⟨k,ag,fun _ _ _ _=>False,fun h=>h.elim,fun h=>h.elim,fun _ h=>h.elim⟩
def rD{α:Type}(F:Rp α->Rp α)(k:Nat)(ag:Bool):Nat->Rp α
 |0=>rNo k ag
 |n+1=>F (rD F k ag n)
def rFix{α:Type}(F:Rp α->Rp α)(k:Nat)(ag:Bool)(hk:∀r,(F r).sz=k):Rp α where
 sz:=k
 agg:=ag
 rp:=fun T w cs x=>∃d,(rD F k ag d).rp T w cs x
 len:=fun⟨d,h⟩=>by
  cases d with
  |zero=>exact h.elim
  |succ d=>exact((F (rD F k ag d)).len h).trans (hk _)
 one:=fun⟨d,h⟩=>(rD F k ag d).one h
 mono:=fun hi ⟨d,h⟩=>⟨d,(rD F k ag d).mono hi h⟩
theorem rD_sz{α:Type}{F:Rp α->Rp α}{k:Nat}{ag:Bool}(hk:∀r,(F r).sz=k)(d:Nat):(rD F k ag d).sz=k:=by
 cases d with
 |zero=>rfl
 |succ d=>exact hk _
theorem rD_up{α:Type}{F:Rp α->Rp α}{k:Nat}{ag:Bool}(hF:Z9q F)(hk:∀r,(F r).sz=k){T:TP}{w:World}:∀(d:Nat)(cs:Ab)(x:α),(rD F k ag d).rp T w cs x->(rD F k ag (d+1)).rp T w cs x
 |0,_,_,h=>h.elim
 |d+1,cs,x,h=>hF.mono ((rD_sz hk d).trans (rD_sz hk (d+1)).symm) (rD_up hF hk d) h
theorem Y4m{α:Type}{F:Rp α->Rp α}{k:Nat}{ag:Bool}{hk:∀r,(F r).sz=k}(hF:Z9q F){T:TP}{w:World}{cs:Ab}{x:α}(h:(rFix F k ag hk).rp T w cs x):(F (rFix F k ag hk)).rp T w cs x:=by
 obtain⟨d,h⟩:=h;cases d with
 |zero=>exact h.elim
 |succ d=>exact hF.mono (r':=rFix F k ag hk) (rD_sz hk d) (fun cs x hx=>⟨d,hx⟩) h
theorem X1a{α:Type}{F:Rp α->Rp α}{k:Nat}{ag:Bool}{hk:∀r,(F r).sz=k}(hF:Z9q F){T:TP}{w:World}{cs:Ab}{x:α}(h:(F (rFix F k ag hk)).rp T w cs x):(rFix F k ag hk).rp T w cs x:=by
 obtain⟨d,hd⟩:=hF.cont (D:=rD F k ag) (fun d=>rD_sz hk d) (rD_up hF hk) (fun cs x hx=>hx) h;exact⟨d+1,hd⟩

/-! ## Reading -/
def RdAt(P:Program)(m:Nat)(t:TypeId){α:Type}(r:Rp α)(wf:α->Prop):Prop:=
 ∀(H:Type)(enc:TypeId×Value->H)(w:World)(base:Nat)(sp:Nat->Bool)(held:Bool)(fuel:Nat),fuel<=m->∀(cs:Ab)(x:DataW H×List MemPlace),DataW.trod enc P w base sp held fuel t cs=some x->∃a,r.rp (allB w) w cs a/\wf a
section
variable{P:Program}{m:Nat}{t e:TypeId}{α β:Type}{r:Rp α}{wf wf':α->Prop}
theorem RdOk.at(h:RdOk P t r wf)(m:Nat):RdAt P m t r wf:=fun H enc w base sp held fuel _ cs x hx=>h H enc w base sp held fuel cs x hx
theorem RdAt.imp(h:RdAt P m t r wf)(hi:∀a,wf a->wf' a):RdAt P m t r wf':=fun H enc w base sp held fuel hf cs x hx=>let⟨a,h1,h2⟩:=h H enc w base sp held fuel hf cs x hx;⟨a,h1,hi a h2⟩
end
section
variable{P:Program}{n:NF}{J:Nat->Value}{L:List (Nat×Value)}{w:World}{KK:Act->World->Prop}{Q:Ac}{g:World}{T:TP}{G:List X1}{q d:Nat}{x y:Operand}{t ty:TypeId}{pos:String}{aft:Ag}
end
section
variable{P:Program}{n:NF}{J:Nat->Value}{L:List (Nat×Value)}{w:World}{d:Nat}{ty:TypeId}{pos:String}{aft:Ag}{x y:Operand}{t t2:TypeId}
end
def Gc(T:TP)(w:World)(g:Nat)(cs:Ab):Prop:=T g/\∃t fr,w.heap[g]?=some (.cells cs.toArray t fr)
theorem Gc.mono{T T':TP}{w w':World}{g:Nat}{cs:Ab}(h:Gc T w g cs)(i:Im T w T' w'):Gc T' w' g cs:=
 ⟨(i g h.1).1,let⟨t,fr,h2⟩:=h.2;⟨t,fr,(i g h.1).2.trans h2⟩⟩
theorem Gc.var{P:Program}{T:TP}{w:World}{g:Nat}{cs:Ab}{name:String}(h:Gc T w g cs)(hg:P.globalNamed name=some g):w.var? P name=some cs.toArray:=by
 obtain⟨_,t,fr,h2⟩:=h
 simp[World.var?,hg,h2]
theorem Gc.cell{T:TP}{w:World}{g:Nat}{cs:Ab}(h:Gc T w g cs){i:Nat}{v:Value}(hi:cs[i]?=some v):w.cell? ⟨g,i,none⟩=some v:=by
 obtain⟨_,t,fr,h2⟩:=h
 simp[World.cell?,h2,hi]
theorem Gc.of{P:Program}{w:World}{g:Nat}{cs:Ab}{name:String}{T:TP}(hg:P.globalNamed name=some g)(h:w.var? P name=some cs.toArray)(hT:g<w.heap.size->T g):Gc T w g cs:=by
 unfold World.var? at h;rw[hg,Option.bind_some]at h
 split at h
 . rename_i c t fr hh
   cases h;exact⟨hT (hlt hh),_,_,hh⟩
 . cases h
def Ge(T:TP)(w:World)(g:Nat):Prop:=T g/\∃ev,w.cell? ⟨g,0,none⟩=some ev/\(ev= .nilIface\/∃te pe,ev= .iface te pe)
theorem Ge.mono{T T':TP}{w w':World}{g:Nat}(h:Ge T w g)(i:Im T w T' w'):Ge T' w' g:=by
 obtain⟨h1,ev,h2,h3⟩:=h;refine⟨(i g h1).1,ev,?_,h3⟩;rw[<-h2]
 simp only[World.cell?,(i g h1).2]
theorem inB{T:TP}{w w':World}(hl:Bd T w)(hB:RowKit.Below w.heap.size w w'):Inn w.heap.size noB T w T w':=
 ⟨⟨hB.os,hB.tape,hB.output,hB.size,fun b hb' _=>hB.block b hb'⟩,fun b hb'=>⟨hb',hB.block b (hl b hb')⟩,fun _ _ h=>h,fun b hb'=>jM (hl b hb') hB.size,hB.size⟩
theorem Sep.below{g w w':World}{T:TP}{L:List X1}(h:Sep g T w L)(hB:RowKit.Below w.heap.size w w'):Im T w T w'/\Sep g T w' L:=
 ⟨(inB h.lt hB).imm,h.keep (inB h.lt hB) (fun _ h=>h)⟩
theorem Sep.fresh{g w:World}{T:TP}{L:List X1}(h:Sep g T w L)(o:Obj):Im T w (fun k=>T k\/k=w.heap.size) (w.alloc o)/\Sep g (fun k=>T k\/k=w.heap.size) (w.alloc o) L:=by
 have hB:RowKit.Below w.heap.size w (w.alloc o):=(RowKit.Below.refl _ _).alloc (qD _) o
 have i:Inn w.heap.size noB T w (fun k=>T k\/k=w.heap.size) (w.alloc o):=
  ⟨⟨hB.os,hB.tape,hB.output,hB.size,fun b hb' _=>hB.block b hb'⟩,fun b hb'=>⟨.inl hb',hB.block b (h.lt b hb')⟩,fun k hk h=>h.elim id fun e=>by omega,fun b hb'=>by
   rcases hb' with hb'|rfl
   . exact jM (h.lt b hb') hB.size
   . simp,hB.size⟩
 exact⟨i.imm,h.keep i (fun _ h=>h)⟩
theorem gi_start{P:Program}{w:World}{g:Nat}{t:TypeId}{zero:Array Value}(h:w.ShapedOpen P)(hg:g<P.globals.size)
 (h0:((begin P (fun _ _=>0) default).world.heap[g]?).bind Obj.row?=some (zero,t)) (hz:zero.size=1)
 (hb:P.buildable t=true) (hc:P.cellTypes P.depth t=some [t]) (hu:P.underlying t=some (.int .i64)):Gi (allB w) w g:=by
 obtain⟨cs,hh,hs,hr⟩:=h.1 g zero t hg h0;obtain⟨ts,hts,_,hall⟩:=hr hb;rw[hc]at hts;cases hts;have h1:0<cs.size:=by omega
 obtain⟨u,hu',hok⟩:=hall 0 cs[0] (by simp[h1]);have:u=t:=by simpa using hu'.symm
 subst this;have hcell:w.cell? ⟨g,0,none⟩=some cs[0]:=by simp[World.cell?,hh,h1]
 refine⟨(Array.getElem?_eq_some_iff.1 hh).1,?_⟩;rw[hcell];unfold Cell.ok at hok;rw[hu]at hok;cases hv:cs[0]<;>rw[hv]at hok<;>first|(simp at hok;done)|skip
 rename_i k n
 cases k<;>simp[IntKind.has]at hok
 exact⟨_,rfl⟩
/-- The contract of a function, found by its number. -/
class Ctr(P:Program)(f:Nat)(C:outParam Prop):Prop where
 out:C
 ok:Z2m P f
theorem X0w(L:List X1):J8 L=L.length:=by
 induction L with
 |nil=>rfl
 |cons A L ih=>simp[J8,ih]
theorem Y8l(L:List X1)(i:Nat):atA L i=L.getD i empA:=by
 induction L generalizing i with
 |nil=>simp[atA]
 |cons A L ih=>cases i with
  |zero=>rfl
  |succ i=>simp[atA,ih]
theorem Z4d(L:List X1)(ix:List Nat):Z6c L ix=ix.map (atA L):=by
 induction ix with
 |nil=>rfl
 |cons i ix ih=>simp[Z6c,ih]
theorem Y6o{n:Nat}:∀{ix:List Nat},(∀i∈ix,i<n)->ix.Nodup->Y4i n ix=true
 |[],_,_=>rfl
 |i::r,h,hn=>by
  rw[List.nodup_cons]at hn
  simp only[Y4i,Bool.and_eq_true,List.all_eq_true]
  refine⟨⟨by simpa[Nat.blt_eq]using h i (by simp),fun j hj=>?_⟩,Y6o (fun j hj=>h j (by simp[hj])) hn.2⟩
  have hij:i≠j:=fun e=>hn.1 (e▸hj)
  have:Nat.beq i j=false:=by
   cases e:Nat.beq i j with
   |false=>rfl
   |true=>exact absurd (Nat.eq_of_beq_eq_true e) hij
  rw[this]
  rfl
theorem perm_ix{L L':List X1}(p:L.Perm L'):∃ix:List Nat,Z6c L ix=L'/\(∀i∈ix,i<L.length)/\ix.Nodup:=by
 induction p with
 |nil=>exact⟨[],rfl,by simp,List.nodup_nil⟩
 |@cons x l l' _ ih=>
  obtain⟨ix,h1,h2,h3⟩:=ih;refine⟨0::ix.map (·+1),?_,?_,?_⟩
  . rw[Z4d]at h1⊢;rw[List.map_cons,List.map_map];show x::ix.map _=_;rw[show(atA (x::l)∘fun i=>i+1)=atA l from rfl,h1]
  . intro i hi
    simp only[qZ,List.mem_map]at hi
    rcases hi with rfl|⟨j,hj,rfl⟩
    . simp
    . have:=h2 j hj
      simp only[qY]
      omega
  . rw[List.nodup_cons];refine⟨by simp,?_⟩;rw[List.nodup_iff_pairwise_ne,List.pairwise_map];exact(List.nodup_iff_pairwise_ne.1 h3).imp fun h e=>h (by omega)
 |swap x y l=>
  refine⟨1::0::(qT l.length).map (·+2),?_,?_,?_⟩
  . rw[Z4d]
    simp only[List.map_cons,List.map_map]
    show x::y::_=_
    congr 2
    refine List.ext_getElem (by simp) fun i h1 h2=>?_
    simp only[List.getElem_map,List.getElem_range,Function.comp]
    show atA l i=_;rw[Y8l,kP,kM h2]
    rfl
  . intro i hi
    simp only[qZ,List.mem_map,List.mem_range]at hi
    simp only[qY]
    rcases hi with rfl|rfl|⟨j,hj,rfl⟩<;>omega
  . rw[List.nodup_cons,List.nodup_cons];refine⟨by simp,by simp,?_⟩;rw[List.nodup_iff_pairwise_ne,List.pairwise_map];exact(List.nodup_iff_pairwise_ne.1 List.nodup_range).imp fun h e=>h (by omega)
 |@trans a b c _ _ ih1 ih2=>
  obtain⟨ix,h1,h2,h3⟩:=ih1;obtain⟨jx,g1,g2,g3⟩:=ih2;have hl:b.length=ix.length:=by rw[<-h1,Z4d,List.length_map]
  refine⟨jx.map fun j=>ix.getD j 0,?_,?_,?_⟩
  . rw[<-g1,Z4d,Z4d,List.map_map];refine List.map_congr_left fun j hj=>?_;have:=g2 j hj
    simp only[Function.comp]
    rw[<-h1,Z4d,Y8l (List.map _ _),kP,kP,List.getElem?_map,kM (by omega)]
    rfl
  . intro i hi;obtain⟨j,hj,rfl⟩:=List.mem_map.1 hi;have:=g2 j hj;rw[kP,kM (by omega)];exact h2 _ (jT _)
  . rw[List.nodup_iff_pairwise_ne,List.pairwise_map];refine List.Pairwise.imp_of_mem ?_ (List.nodup_iff_pairwise_ne.1 g3);intro i j hi hj h e;have hi:=g2 i hi;have hj:=g2 j hj;rw[kP,kM (by omega),kP,kM (by omega)]at e;exact h ((List.getElem_inj h3).1 e)
section
variable{g:World}{T:TP}{w:World}{G G' N rest R:List X1}{A B:X1}
theorem Sep.perm(h:Sep g T w G)(p:G.Perm G'):Sep g T w G':=by
 obtain⟨ix,h1,h2,h3⟩:=perm_ix p;rw[<-h1];exact h.sel ix (Y6o (by rw[X0w];exact h2) h3)
theorem Sep.bunL(h:Sep g T w (N++rest)):Sep g T w (X0 rest::N):=by
 have e1:Z6c (N++rest) (qT N.length)=N:=by
  rw[Z4d];refine List.ext_getElem (by simp) fun i h1 h2=>?_
  simp only[List.getElem_map,List.getElem_range]
  rw[Y8l,kP,kR h2,kM h2]
  rfl
 have e2:Z6c (N++rest) (List.range' N.length rest.length)=rest:=by
  rw[Z4d];refine List.ext_getElem (by simp) fun i h1 h2=>?_
  simp only[List.getElem_map,List.getElem_range']
  rw[Y8l,kP,kS (by omega),show N.length+1*i-N.length=i by omega,kM h2]
  rfl
 have:=h.bun (List.range' N.length rest.length) (qT N.length) (Y6o (by
  intro i hi;rw[X0w,qW]
  rcases List.mem_append.1 hi with hi|hi
  . have:=List.mem_range.1 hi;omega
  . have:=(List.mem_range'_1.1 hi).2;omega) (by
  rw[List.nodup_append];refine⟨List.nodup_range,List.nodup_range',fun a ha b hb e=>?_⟩;have h1:=List.mem_range.1 ha;have h2:=List.mem_range'_1.1 hb;omega))
 rw[e1,e2]at this;exact this
/-- One is taken out. -/
def Rmv(G:List X1)(A:X1)(G':List X1):Prop:=G.Perm (A::G')
theorem rmH(e:G=B::G')(h:B=A):Rmv G A G':=by subst e;subst h;exact List.Perm.refl _
theorem rmT{G1 G2:List X1}(e:G=B::G1)(h:Rmv G1 A G2):Rmv G A (B::G2):=by
 subst e;exact(List.Perm.cons B h).trans (List.Perm.swap A B G2)
/-- Some are taken out. -/
def Pks(G N rest:List X1):Prop:=G.Perm (N++rest)
theorem pk0:Pks G [] G:=List.Perm.refl _
theorem pkC{G1:List X1}(h:Rmv G A G1)(k:Pks G1 N rest):Pks G (A::N) rest:=h.trans (List.Perm.cons A k)
theorem pkS{G1:List X1}(e:G=B::G1)(h:Pks G1 N rest):Pks G N (B::rest):=by
 subst e;exact(List.Perm.cons B h).trans (List.perm_middle.symm)
theorem Sep.pkB(S:Sep g T w G)(h:Pks G N rest):Sep g T w ([X0 rest]++N):=(S.perm h).bunL
theorem Sep.pkC(S:Sep g T w G)(h:Pks G N rest):Sep g T w (X0 rest::N):=(S.perm h).bunL
theorem Sep.pkE(S:Sep g T w G)(h:Pks G N rest):Sep g T w N:=by
 have h1:=S.perm h
 have e1:Z6c (N++rest) (qT N.length)=N:=by
  rw[Z4d];refine List.ext_getElem (by simp) fun i h1 h2=>?_
  simp only[List.getElem_map,List.getElem_range]
  rw[Y8l,kP,kR h2,kM h2]
  rfl
 have:=h1.sel (qT N.length) (Y6o (by intro i hi;rw[X0w,qW];have:=List.mem_range.1 hi;omega) List.nodup_range);rw[e1]at this;exact this
theorem Sep.pkR(S:Sep g T w G)(h:Pks G (X0 R::N) rest):Sep g T w (R++N):=(S.pkE h).unb
end
theorem bindI{α β:Type}{l:List α}{i:Int}{f:α->Option β}{r:β}(h:(idx l i).bind f=some r):∃x,idx l i=some x/\f x=some r:=bindS h
theorem bindR{β:Type}{n:Nat}{f:Unit->Option β}{r:β}(h:(Q1d n).bind f=some r):n<=8589934592/\f ()=some r:=by
 obtain⟨u,h1,h2⟩:=bindS h;exact⟨K9 h1,h2⟩
section
variable{P:Program}{ops:Array Oper}{Q:Ac}{rest:Ah}{n:NF}{J:Nat->Value}{L:List (Nat×Value)}{w:World}
 {d:Nat} {ty:TypeId} {pos:String} {aft:Ag} {T:TP} {f:FuncId} {fo:Operand} {ca:Array Value} {args:Ab} {xs:Array Operand} {tys:Array TypeId} {Pr:Prop}
theorem zcB{α A:Type}{m:Option α}{kk:α->Option A}{r:A}{Ro:α->(TP)->World->Value->Prop}{g:World}{G:List X1}(_:Sep g T w G)(hm:m.bind kk=some r)
 (hf:ev n J L fo= .func (.func f) #[] ca) (i:Ctr P f Pr) (ha:xs.toList.map (ev n J L)++ca.toList=args) (hc:Pr->∀y,m=some y->Calls P f args.toArray w (J6 T w (Ro y)))
 (k:∀y v T' w',Im T w T' w'->Ro y T' w' v->kk y=some r->wpList P ops Q rest (env n J ((d,v)::L)) w'):
 wpList P ops Q (⟨some d,.call ⟨.value fo,xs,tys⟩,ty,pos,aft,none⟩::rest) (env n J L) w:=wcB i.ok hm (hc i.out) k hf ha
theorem zcBN{α A:Type}{m:Option α}{kk:α->Option A}{r:A}{Ro:α->(TP)->World->Value->Prop}{g:World}{G:List X1}(_:Sep g T w G)(hm:m.bind kk=some r)
 (hf:ev n J L fo= .func (.func f) #[] ca) (i:Ctr P f Pr) (ha:xs.toList.map (ev n J L)++ca.toList=args) (hc:Pr->∀y,m=some y->Calls P f args.toArray w (J6 T w (Ro y)))
 (k:∀y v T' w',Im T w T' w'->Ro y T' w' v->kk y=some r->wpList P ops Q rest (env n J L) w'):
 wpList P ops Q (⟨none,.call ⟨.value fo,xs,tys⟩,ty,pos,aft,none⟩::rest) (env n J L) w:=wcBN i.ok hm (hc i.out) k hf ha
theorem zcP{α A E:Type}{m:Option (Except E α)}{ko:α->Option A}{ke:E->Option A}{r:A}{Ro:α->(TP)->World->Value->Prop}{Re:E->(TP)->World->Value->Prop}{g:World}{G:List X1}(_:Sep g T w G)(hm:(m.bind fun y=>exC y ko ke)=some r)
 (hf:ev n J L fo= .func (.func f) #[] ca) (i:Ctr P f Pr) (ha:xs.toList.map (ev n J L)++ca.toList=args) (hc:Pr->∀y,m=some y->Calls P f args.toArray w (exR y (fun x=>J6 T w (Ro x)) (fun e=>L8 T w (Re e))))
 (k1:∀e v T' w',Im T w T' w'->Re e T' w' v->ke e=some r->Q (.panic [{v,recovered:=false}]) (env n J L) w')
 (k2:∀x v T' w',Im T w T' w'->Ro x T' w' v->ko x=some r->wpList P ops Q rest (env n J ((d,v)::L)) w'):
 wpList P ops Q (⟨some d,.call ⟨.value fo,xs,tys⟩,ty,pos,aft,none⟩::rest) (env n J L) w:=wcP i.ok hm (hc i.out) k1 k2 hf ha
theorem zcPN{α A E:Type}{m:Option (Except E α)}{ko:α->Option A}{ke:E->Option A}{r:A}{Ro:α->(TP)->World->Value->Prop}{Re:E->(TP)->World->Value->Prop}{g:World}{G:List X1}(_:Sep g T w G)(hm:(m.bind fun y=>exC y ko ke)=some r)
 (hf:ev n J L fo= .func (.func f) #[] ca) (i:Ctr P f Pr) (ha:xs.toList.map (ev n J L)++ca.toList=args) (hc:Pr->∀y,m=some y->Calls P f args.toArray w (exR y (fun x=>J6 T w (Ro x)) (fun e=>L8 T w (Re e))))
 (k1:∀e v T' w',Im T w T' w'->Re e T' w' v->ke e=some r->Q (.panic [{v,recovered:=false}]) (env n J L) w')
 (k2:∀x v T' w',Im T w T' w'->Ro x T' w' v->ko x=some r->wpList P ops Q rest (env n J L) w'):
 wpList P ops Q (⟨none,.call ⟨.value fo,xs,tys⟩,ty,pos,aft,none⟩::rest) (env n J L) w:=wcPN i.ok hm (hc i.out) k1 k2 hf ha
end
section
variable{P:Program}{ops:Array Oper}{Q:Ac}{rest:Ah}{n:NF}{J:Nat->Value}{L:List (Nat×Value)}{w:World}{T:TP}{g:World}{G:List X1}
 {d:Nat} {ty t:TypeId} {pos:String} {aft:Ag} {q b j sz o:Nat} {cur cs zs:Ab} {x y:Operand} {v z:Value} {H:Ab->X1}
theorem zst(hS:Sep g T w G)(hx:ev n J L x= .pointer (some ⟨b,j,none⟩))(hi:AtR G q (K7 b cur))(hs:∀w,(sizeOf t).run P w= .ok sz w)(hy:ev n J L y=v)(hv:v.cells.toList=cs)(hl:cs.length=sz)(h1:cs.all Value.oneCell'=true)(hfit:Nat.ble (j+cs.length) cur.length=true)
 (k:∀w',Im T w T w'->Sep g T w' (A9 G q (K7 b (Q0e cur j cs)))->wpList P ops Q rest (env n J L) w'):
 wpList P ops Q (⟨none,.store t x y,ty,pos,aft,none⟩::rest) (env n J L) w:=wst ⟨trivial⟩ hS hs k hi hx hy hv hl h1 hfit
theorem zsb(hS:Sep g T w G)(hx:ev n J L x= .pointer (some ⟨b,o+j,none⟩))(hL:Ln b o H)(hi:AtR G q (H cur))(hs:∀w,(sizeOf t).run P w= .ok sz w)(hy:ev n J L y=v)(hv:v.cells.toList=cs)(hl:cs.length=sz)(h1:cs.all Value.oneCell'=true)(hfit:Nat.ble (j+cs.length) cur.length=true)
 (k:∀w',Im T w T w'->Sep g T w' (A9 G q (H (Q0e cur j cs)))->wpList P ops Q rest (env n J L) w'):
 wpList P ops Q (⟨none,.store t x y,ty,pos,aft,none⟩::rest) (env n J L) w:=wsb ⟨trivial⟩ ⟨trivial⟩ hL hS hs k hi hx hy hv hl h1 hfit
theorem zal(hS:Sep g T w G)(hz:∀w,(zeroValue t).run P w= .ok z w)(hc:z.cells.toList=zs)(k:∀w' b,Im T w T w'->Sep g T w' (K7 b zs::G)->wpList P ops Q rest (env n J ((d,.pointer (some ⟨b,0,none⟩))::L)) w'):
 wpList P ops Q (⟨some d,.alloc t,ty,pos,aft,none⟩::rest) (env n J L) w:=wal ⟨trivial⟩ hS hz k hc
theorem zbx(hS:Sep g T w G)(hx:ev n J L x=v)(hc:v.cells.toList=cs)(k:∀w' b,Im T w T w'->Sep g T w' (K7 b cs::G)->wpList P ops Q rest (env n J ((d,.pointer (some ⟨b,0,none⟩))::L)) w'):
 wpList P ops Q (⟨some d,.box t x,ty,pos,aft,none⟩::rest) (env n J L) w:=wbx ⟨trivial⟩ hS k hx hc
end
theorem nnS{α:Type}{r:α}{A:Prop}(h:(none:Option α)=some r):A:=nomatch h
theorem bindN{β:Type}{n:Int}{f:Unit->Option β}{r:β}(h:(nz n).bind f=some r):n≠0/\f ()=some r:=by
 obtain⟨u,h1,h2⟩:=bindS h;unfold nz at h1
 split at h1
 . cases h1
 . exact⟨by assumption,h2⟩
theorem bindU{α β:Type}{l:List α}{a b:Int}{f:List α->Option β}{r:β}(h:(sub l a b).bind f=some r):∃x,sub l a b=some x/\f x=some r:=bindS h
/-- What is built, by the places of its fields. -/
def bldL(z:Ab)(fs:Array Field):List (Nat×Value)->Ab
 |[]=>z
 |(i,v)::l=>bldL (Q0e z ((fs[i]?.map Field.offset).getD 0) v.cells.toList) fs l
section
variable{P:Program}{n:NF}{J:Nat->Value}{L:List (Nat×Value)}{w:World}{d:Nat}{ty t:TypeId}{pos:String}{aft:Ag}
theorem r_ldZ{b o k sz:Nat}{x:Operand}{cells cs:Ab}(hx:ev n J L x= .pointer (some ⟨b,o+k,none⟩))(ht:∀w,(isAgg t).run P w= .ok true w)(hs:∀w,(sizeOf t).run P w= .ok sz w)(hc:cellsAt w b o cells)(he:(cells.drop k).take sz=cs)(hl:cs.length=sz):
 (execOp (ev n J L) ⟨some d,.load t x,ty,pos,aft,none⟩).run P w= .ok (.value (.agg cs.toArray)) w:=Y9g hx ht hs hl (hc.sub k (by rw[hl];exact he))
theorem zbd{z:Value}{fs:Array Field}{parts:Array (Nat×Operand)}{cs:Ab}(_:∀w,(zeroValue t).run P w= .ok z w)(_:P.underlying t=some (.struct fs))(_:bldL z.cells.toList fs (parts.toList.map fun p=>(p.1,ev n J L p.2))=cs)(h:P.built t (parts.toList.map fun p=>(p.1,ev n J L p.2))=some cs.toArray):
 (execOp (ev n J L) ⟨some d,.build t parts,ty,pos,aft,none⟩).run P w= .ok (.value (.agg cs.toArray)) w:=P3 h rfl
end
/-! Regions that draw their order: what waits for what is handed in (D). -/
structure KD(D:List (Nat×List Nat)):Prop where
 out:True
def lkD:List (Nat×List Nat)->Nat->List Nat
 |[],_=>[]
 |e::D,j=>cond (Nat.beq e.1 j) e.2 (lkD D j)
def memD:List Nat->Nat->Bool
 |[],_=>false
 |x::l,j=>cond (Nat.beq x j) true (memD l j)
def filD(D:List (Nat×List Nat))(j:Nat):List (Nat×Value)->List (Nat×Value)
 |[]=>[]
 |p::pd=>cond (memD (lkD D j) p.1) (filD D j pd) (p::filD D j pd)
def freeD(R:List Nat):List Nat->Bool
 |[]=>true
 |z::l=>cond (memD R z) false (freeD R l)
def keyD:List (Nat×List Nat)->Nat->Bool
 |[],_=>false
 |e::D,j=>cond (Nat.beq e.1 j) true (keyD D j)
def enD(D:List (Nat×List Nat))(R:List Nat):List Nat->List Nat
 |[]=>[]
 |y::l=>cond (keyD D y) (cond (freeD R (lkD D y)) (y::enD D R l) (enD D R l)) (enD D R l)
def rmD(j:Nat):List Nat->List Nat
 |[]=>[]
 |y::l=>cond (Nat.beq y j) (rmD j l) (y::rmD j l)
section
variable{P:Program}{l:Ah}{fl:List Nat}{Q:Ac}{pd pd2:List (Nat×Value)}{i j:Nat}{is js R R':List Nat}{n:NF}{J:Nat->Value}{L:List (Nat×Value)}{w:World}
 {d:Nat} {ty:TypeId} {pos:String} {aft:Ag} {op:Op} {gd:Option (Nat×Bool)} {D:List (Nat×List Nat)} {m:Nat} {a:Act} {KK:Act->World->Prop}
theorem idS(h:H8 P l fl Q pd is a w):H8 P l fl Q pd is a w:=h
theorem idT(h:Q1o P l fl Q m pd is a w):Q1o P l fl Q m pd is a w:=h
theorem s2Z{dst:Option Tmp}(_:KD D)(_:filD D i pd=pd2)(ho:l[i]?=some ⟨dst,op,ty,pos,aft,gd⟩)(hw:Wt l n J L gd)(hf:fl.getD i 2=2)(hp:(pd.filter fun p=>!((Q9w l).getD i 0).testBit p.1)=pd2)
 (h:Oper.wp P ⟨dst,op,ty,pos,aft,none⟩ (env n J L) w (fun a' w'=>Z2k P l pd2 a' w'/\H8 P l fl Q pd2 is a' w') Q):H8 P l fl Q pd (i::is) (env n J L) w:=s2 pd2 ho hw hf hp h
theorem twZ{kk:Nat}(_:KD D)(hk:kk=m+1)(_:enD D (i::is) (i::is)=js)(ho:(l[i]?).isSome=true)(hwt:∀o,l[i]?=some o->Q7z l o (env n J L)=true)(hf:fl.getD i 2=2)(hjs:js.all (fun j=>nzB fl j)=true)(hB:twB l fl (Q9w l) (i::is) js=true)
 (h:Brs P l fl Q m pd (i::is) (env n J L) w js):Q1o P l fl Q kk pd (i::is) (env n J L) w:=by subst hk;exact tw js ho hwt hf hjs hB h
theorem brZ{dst:Option Tmp}(_:KD D)(_:rmD j R=R')(_:filD D j pd=pd2)(ho:l[j]?=some ⟨dst,op,ty,pos,aft,gd⟩)(hb:brB R R' j=true)(hq:Z7v l fl (Q9w l) R'=true)(hw:Wt l n J L gd)
 (hp:(pd.filter fun p=>!((Q9w l).getD j 0).testBit p.1)=pd2)
 (h:Oper.wp P ⟨dst,op,ty,pos,aft,none⟩ (env n J L) w (fun a' w'=>Z2k P l pd2 a' w'/\Q1o P l fl Q m pd2 R' a' w') Q):Br P l fl Q m pd R (env n J L) w j:=br R' pd2 ho hb hq hw hp h
theorem brs0:Brs P l fl Q m pd R a w []:=trivial
theorem brsC(h:Br P l fl Q m pd R a w j)(k:Brs P l fl Q m pd R a w js):Brs P l fl Q m pd R a w (j::js):=⟨h,k⟩
variable{T:TP}{g:World}{G:List X1}{f:FuncId}{fo:Operand}{ca:Array Value}{args:Ab}{xs:Array Operand}{tys:Array TypeId}{Pr:Prop}{S:(TP)->World->Value->Prop}
theorem zoS(_:Sep g T w G)(hf:ev n J L fo= .func (.func f) #[] ca)(i:Ctr P f Pr)(ha:xs.toList.map (ev n J L)++ca.toList=args)(hc:Pr->Calls P f args.toArray w (J6 T w S))
 (k:∀v T' w',Im T w T' w'->S T' w' v->KK (env n J ((d,v)::L)) w'):Oper.wp P ⟨some d,.call ⟨.value fo,xs,tys⟩,ty,pos,aft,none⟩ (env n J L) w KK Q:=calS i.ok hf (hc i.out) ha k
theorem zoN(_:Sep g T w G)(hf:ev n J L fo= .func (.func f) #[] ca)(i:Ctr P f Pr)(ha:xs.toList.map (ev n J L)++ca.toList=args)(hc:Pr->Calls P f args.toArray w (J6 T w S))
 (k:∀v T' w',Im T w T' w'->S T' w' v->KK (env n J L) w'):Oper.wp P ⟨none,.call ⟨.value fo,xs,tys⟩,ty,pos,aft,none⟩ (env n J L) w KK Q:=calN i.ok hf (hc i.out) ha k
theorem zoP{dst:Option Tmp}(_:Sep g T w G)(hf:ev n J L fo= .func (.func f) #[] ca)(i:Ctr P f Pr)(ha:xs.toList.map (ev n J L)++ca.toList=args)(hc:Pr->Calls P f args.toArray w (L8 T w S))
 (k:∀v T' w',Im T w T' w'->S T' w' v->Q (.panic [{v,recovered:=false}]) (env n J L) w'):Oper.wp P ⟨dst,.call ⟨.value fo,xs,tys⟩,ty,pos,aft,none⟩ (env n J L) w KK Q:=Z0k i.ok hf (hc i.out) ha k
theorem zoE{dst:Option Tmp}{α E:Type}{e:E}{m:Option (Except E α)}{Ro:α->(TP)->World->Value->Prop}{Re:E->(TP)->World->Value->Prop}(_:Sep g T w G)(_:m=some (Except.error e))(hf:ev n J L fo= .func (.func f) #[] ca)(i:Ctr P f Pr)(ha:xs.toList.map (ev n J L)++ca.toList=args)
 (hc:Pr->Calls P f args.toArray w (exR (Except.error e:Except E α) (fun x=>J6 T w (Ro x)) (fun e=>L8 T w (Re e))))
 (k:∀v T' w',Im T w T' w'->Re e T' w' v->Q (.panic [{v,recovered:=false}]) (env n J L) w'):Oper.wp P ⟨dst,.call ⟨.value fo,xs,tys⟩,ty,pos,aft,none⟩ (env n J L) w KK Q:=Z0k i.ok hf (hc i.out) ha k
theorem zoK{α E:Type}{x:α}{y:Except E α}{Ro:α->(TP)->World->Value->Prop}{Re:E->(TP)->World->Value->Prop}(_:Sep g T w G)(hf:ev n J L fo= .func (.func f) #[] ca)(i:Ctr P f Pr)(ha:xs.toList.map (ev n J L)++ca.toList=args)
 (hc:Pr->Calls P f args.toArray w (exR y (fun x=>J6 T w (Ro x)) (fun e=>L8 T w (Re e)))) (hy:y=Except.ok x)
 (k:∀v T' w',Im T w T' w'->Ro x T' w' v->KK (env n J ((d,v)::L)) w'):Oper.wp P ⟨some d,.call ⟨.value fo,xs,tys⟩,ty,pos,aft,none⟩ (env n J L) w KK Q:=by subst hy;exact calS i.ok hf (hc i.out) ha k
theorem zoKN{α E:Type}{x:α}{y:Except E α}{Ro:α->(TP)->World->Value->Prop}{Re:E->(TP)->World->Value->Prop}(_:Sep g T w G)(hf:ev n J L fo= .func (.func f) #[] ca)(i:Ctr P f Pr)(ha:xs.toList.map (ev n J L)++ca.toList=args)
 (hc:Pr->Calls P f args.toArray w (exR y (fun x=>J6 T w (Ro x)) (fun e=>L8 T w (Re e)))) (hy:y=Except.ok x)
 (k:∀v T' w',Im T w T' w'->Ro x T' w' v->KK (env n J L) w'):Oper.wp P ⟨none,.call ⟨.value fo,xs,tys⟩,ty,pos,aft,none⟩ (env n J L) w KK Q:=by subst hy;exact calN i.ok hf (hc i.out) ha k
variable{t:TypeId}{q b sz o:Nat}{cur cs zs:Ab}{x y:Operand}{v z:Value}{H:Ab->X1}
theorem zost(hS:Sep g T w G)(hx:ev n J L x= .pointer (some ⟨b,j,none⟩))(hi:AtR G q (K7 b cur))(hs:∀w,(sizeOf t).run P w= .ok sz w)(hy:ev n J L y=v)(hv:v.cells.toList=cs)(hl:cs.length=sz)(h1:cs.all Value.oneCell'=true)(hfit:Nat.ble (j+cs.length) cur.length=true)
 (k:∀w',Im T w T w'->Sep g T w' (A9 G q (K7 b (Q0e cur j cs)))->KK (env n J L) w'):Oper.wp P ⟨none,.store t x y,ty,pos,aft,none⟩ (env n J L) w KK Q:=ost ⟨trivial⟩ hS hs k hi hx hy hv hl h1 hfit
theorem zosb(hS:Sep g T w G)(hx:ev n J L x= .pointer (some ⟨b,o+j,none⟩))(hL:Ln b o H)(hi:AtR G q (H cur))(hs:∀w,(sizeOf t).run P w= .ok sz w)(hy:ev n J L y=v)(hv:v.cells.toList=cs)(hl:cs.length=sz)(h1:cs.all Value.oneCell'=true)(hfit:Nat.ble (j+cs.length) cur.length=true)
 (k:∀w',Im T w T w'->Sep g T w' (A9 G q (H (Q0e cur j cs)))->KK (env n J L) w'):Oper.wp P ⟨none,.store t x y,ty,pos,aft,none⟩ (env n J L) w KK Q:=osb ⟨trivial⟩ ⟨trivial⟩ hL hS hs k hi hx hy hv hl h1 hfit
theorem zoal(hS:Sep g T w G)(hz:∀w,(zeroValue t).run P w= .ok z w)(hc:z.cells.toList=zs)(k:∀w' b,Im T w T w'->Sep g T w' (K7 b zs::G)->KK (env n J ((d,.pointer (some ⟨b,0,none⟩))::L)) w'):
 Oper.wp P ⟨some d,.alloc t,ty,pos,aft,none⟩ (env n J L) w KK Q:=oal ⟨trivial⟩ hS hz k hc
theorem zobx(hS:Sep g T w G)(hx:ev n J L x=v)(hc:v.cells.toList=cs)(k:∀w' b,Im T w T w'->Sep g T w' (K7 b cs::G)->KK (env n J ((d,.pointer (some ⟨b,0,none⟩))::L)) w'):
 Oper.wp P ⟨some d,.box t x,ty,pos,aft,none⟩ (env n J L) w KK Q:=obx ⟨trivial⟩ hS k hx hc
end
/-- A slice's elements and their cells, handed in. -/
structure HL(k:Nat){α:Type}(r:Rp α)(l:List α)(css:List (Ab)):Prop where
 out:True
section
variable{P:Program}{Q:Ac}{n:NF}{J:Nat->Value}{L:List (Nat×Value)}{w:World}{KK:Act->World->Prop}{T:TP}{g:World}{G:List X1}
 {d sz:Nat} {ty t:TypeId} {pos:String} {aft:Ag} {z:Value} {ops:Array Oper} {rest:Ah}
theorem zobs(hk:Nat){α:Type}{r:Rp α}{l:List α}{css:List (Ab)}{e:TypeId}{len:Nat}{parts:Array (Nat×Operand)}{cells:Array Value}(hS:Sep g T w G)(_:HL hk r l css)(ha:Y2e r T w css l)(ht:P.underlying t=some (.slice e))(hs:∀w,(sizeOf e).run P w= .ok sz w)(hz:∀w,(zeroValue e).run P w= .ok z w)
 (hc:css.flatten.toArray=cells) (hl:l.length=len) (hle:Nat.ble (len*sz) 16777216=true) (h0:Nat.ble 1 (len*sz)=true)
 (hf:Instr.fill (fun i=>some (i*sz,sz)) ((Array.range (len*sz)).map (z.cells[·%z.cells.size]!)) (parts.toList.map fun p=>(p.1,ev n J L p.2))=some cells) (hr:r.sz=sz)
 (k:∀w' a m c,Im T w T w'->Sep g T w' (F5 r e (.slice a m c) l::G)->KK (env n J ((d,.slice a m c)::L)) w'):Oper.wp P ⟨some d,.buildSlice t len parts,ty,pos,aft,none⟩ (env n J L) w KK Q:=obs hS ha ht hs hz k hc hl hle h0 hf hr
theorem zbs(hk:Nat){α:Type}{r:Rp α}{l:List α}{css:List (Ab)}{e:TypeId}{len:Nat}{parts:Array (Nat×Operand)}{cells:Array Value}(hS:Sep g T w G)(_:HL hk r l css)(ha:Y2e r T w css l)(ht:P.underlying t=some (.slice e))(hs:∀w,(sizeOf e).run P w= .ok sz w)(hz:∀w,(zeroValue e).run P w= .ok z w)
 (hc:css.flatten.toArray=cells) (hl:l.length=len) (hle:Nat.ble (len*sz) 16777216=true) (h0:Nat.ble 1 (len*sz)=true)
 (hf:Instr.fill (fun i=>some (i*sz,sz)) ((Array.range (len*sz)).map (z.cells[·%z.cells.size]!)) (parts.toList.map fun p=>(p.1,ev n J L p.2))=some cells) (hr:r.sz=sz)
 (k:∀w' a m c,Im T w T w'->Sep g T w' (F5 r e (.slice a m c) l::G)->wpList P ops Q rest (env n J ((d,.slice a m c)::L)) w'):wpList P ops Q (⟨some d,.buildSlice t len parts,ty,pos,aft,none⟩::rest) (env n J L) w:=wbs hS ha ht hs hz k hc hl hle h0 hf hr
end
theorem X6w{S R A:Type}{body:S->Option (Lp S R)}{f:Lp S R->Option A}{X:Option A}{n:Nat}{s:S}(I:S->Prop)(μ:S->Nat)(post:Lp S R->Prop)(hI:I s)(hn:μ s<n)
 (hstep:∀s,I s->∃z,body s=some z/\(match z with| .go s'=>I s'/\μ s'<μ s| .brk s'=>post (.brk s')| .ret r=>post (.ret r)))
 (hrest:∀o,post o->f o=X):(loopM body n s).bind f=X:=by
 induction n generalizing s with
 |zero=>omega
 |succ n ih=>
  obtain⟨z,hz,h⟩:=hstep s hI;unfold loopM;rw[hz];cases z with
  |go s'=>exact ih h.1 (by omega)
  |brk s'=>exact hrest _ h
  |ret r=>exact hrest _ h

theorem Q4b{S R:Type}{body:S->Option (Lp S R)}{n:Nat}{s:S}(I:S->Prop)(μ:S->Nat)(post:Lp S R->Prop)(hI:I s)(hn:μ s<n)
 (hstep:∀s,I s->∃z,body s=some z/\(match z with| .go s'=>I s'/\μ s'<μ s| .brk s'=>post (.brk s')| .ret r=>post (.ret r))):∃o,loopM body n s=some o/\post o:=by
 induction n generalizing s with
 |zero=>omega
 |succ n ih=>
  obtain⟨z,hz,h⟩:=hstep s hI;unfold loopM;rw[hz];cases z with
  |go s'=>exact ih h.1 (by omega)
  |brk s'=>exact⟨_,rfl,h⟩
  |ret r=>exact⟨_,rfl,h⟩

theorem w64{x:Int}(h: -9223372036854775808<=x/\x<9223372036854775808):qJ .i64 x=x:=by
 simp only[qJ,IntKind.signed,IntKind.bits]
 simp
 omega
theorem M9{n:Nat}(h:n<=8589934592):Q1d n=some ():=by unfold Q1d;rw[if_pos h]
theorem E8{α:Type}{l:List α}{k:Nat}(h:k<l.length):idx l (k:Int)=some l[k]:=by
 unfold idx;rw[if_pos (by omega)]
 simp[h]
theorem Z1i{n:Nat}(h:n<18446744073709551616):n<NN:=by unfold NN;omega

theorem loop_all{R A:Type}{body:Int->Option (Lp Int R)}{f:Lp Int R->Option A}{n:Nat}{X:Option A}(hn:n<4611686018427387904)(p:Nat->Bool)(no:R)
 (h1:∀k:Nat,k<n->(∀j,j<k->p j=true)->body k=some (bif p k then .go (qJ .i64 ((k:Int)+1))else .ret no)) (h2:body n=some (.brk n))
 (hall:(∀k,k<n->p k=true)->f (.brk n)=X) (hno:(∃k,k<n/\p k=false)->f (.ret no)=X):(loopM body NN 0).bind f=X:=by
 refine X6w (fun x=>∃k:Nat,k<=n/\x=(k:Int)/\∀j,j<k->p j=true) (fun x=>n-x.toNat) (fun o=>(o= .brk n/\∀k,k<n->p k=true)\/(o= .ret no/\∃k,k<n/\p k=false)) ⟨0,by omega,rfl,fun _ h=>by omega⟩ (Z1i (by omega)) ?_ ?_
 . rintro x ⟨k,hk,rfl,hp⟩
   by_cases h:k<n
   . rw[h1 k h hp];cases hpk:p k with
     |true=>
      refine⟨_,rfl,⟨k+1,by omega,?_,fun j hj=>?_⟩,?_⟩
      . rw[w64 (by omega)];omega
      . rcases Nat.lt_or_ge j k with h'|h'
        . exact hp j h'
        . rw[show j=k by omega];exact hpk
      . rw[w64 (by omega)];omega
     |false=>exact⟨_,rfl,.inr ⟨rfl,k,h,hpk⟩⟩
   . have hkn:k=n:=by omega
     subst hkn;rw[h2];exact⟨_,rfl,.inl ⟨rfl,hp⟩⟩
 . rintro o (⟨rfl,h⟩|⟨rfl,h⟩)
   . exact hall h
   . exact hno h
theorem dt{p:Prop}[Decidable p](h:p):decide p=true:=decide_eq_true h
theorem df{p:Prop}[Decidable p](h:¬p):decide p=false:=decide_eq_false h
def Fin{S R:Type}:Lp S R->Prop
 | .go _=>False
 |_=>True

theorem loop_run{S R:Type}{body:S->Option (Lp S R)}(st:Nat->S){z:Lp S R}(hz:Fin z):∀(m n:Nat),m<n->(∀k,k<m->body (st k)=some (.go (st (k+1))))->body (st m)=some z->loopM body n (st 0)=some z:=by
 intro m
 induction m generalizing st with
 |zero=>
  intro n hn _ he;cases n with
  |zero=>omega
  |succ n=>
   unfold loopM;rw[he];cases z with
   |go s=>exact hz.elim
   |brk s=>rfl
   |ret r=>rfl
 |succ m ih=>
  intro n hn hs he;cases n with
  |zero=>omega
  |succ n=>
   unfold loopM;rw[hs 0 (by omega)];exact ih (fun k=>st (k+1)) n (by omega) (fun k hk=>hs (k+1) (by omega)) he

theorem run_bind{S R A:Type}{body:S->Option (Lp S R)}{K:Lp S R->Option A}{X:Option A}{init:S}(st:Nat->S)(m:Nat)(z:Lp S R)(h0:st 0=init)(hm:m<18446744073709551616)
 (hs:∀k,k<m->body (st k)=some (.go (st (k+1)))) (he:body (st m)=some z) (hz:Fin z) (hX:K z=X):(loopM body NN init).bind K=X:=by
 subst h0;rw[loop_run st hz m NN (Z1i hm) hs he];exact hX
theorem Y9m{α A R:Type}{body:Int->Option (Lp Int R)}{K:Lp Int R->Option A}{X:Option A}(l:List α)(p:α->Bool)(ret:Nat->R)(hl:l.length<4611686018427387904)
 (hs:∀k (h:k<l.length),body (k:Int)=some (bif p l[k]then .ret (ret k)else .go (qJ .i64 ((k:Int)+1)))) (he:body (l.length:Int)=some (.brk (l.length:Int)))
 (hX:(match l.findIdx? p with|some k=>K (.ret (ret k))|none=>K (.brk (l.length:Int)))=X):(loopM body NN 0).bind K=X:=by
 have hw:∀k:Nat,k<l.length->qJ .i64 ((k:Int)+1)=((k+1:Nat):Int):=fun k hk=>by rw[w64 (by omega)];omega
 cases hf:l.findIdx? p with
 |none=>
  rw[hf]at hX;have hn:=List.findIdx?_eq_none_iff.1 hf;refine run_bind (fun k=>(k:Int)) l.length (.brk (l.length:Int)) rfl (by omega) (fun k hk=>?_) he trivial hX;rw[hs k hk,hn l[k] (jT hk),Aj,hw k hk]
 |some i=>
  rw[hf]at hX;obtain⟨hi,hp,hlt⟩:=List.findIdx?_eq_some_iff_getElem.1 hf;refine run_bind (fun k=>(k:Int)) i (.ret (ret i)) rfl (by omega) (fun k hk=>?_) (by rw[hs i hi,hp,Ak]) trivial hX;have:=hlt k hk;rw[hs k (by omega),show p l[k]=false by simpa using this,Aj,hw k (by omega)]
theorem c1{α:Type}{b:Bool}{x y:α}(h:b=true):(bif b then x else y)=x:=by subst h;rfl
theorem c0{α:Type}{b:Bool}{x y:α}(h:b=false):(bif b then x else y)=y:=by subst h;rfl
theorem dlt{k n:Nat}(h:k<n):decide ((k:Int)<(n:Int))=true:=by simpa using h
theorem dge(n:Nat):decide ((n:Int)<(n:Int))=false:=by simp
section
variable{H:Type}{enc:TypeId×Value->H}
theorem X2u{a:Assume}{C:Checked}{os:Os}{f:FuncId}{fn:Func}{s:ChangeSpec}{conds:List PathCond}{apart fresh handsOn again:Bool}{X:World->Array Value->Prop}
 (hX:∀(w w':World)(args:Array Value),w.heap=w'.heap->X w args->X w' args)
 (own:ownKnob C.prog.godebug=none) (started:os.Started) (noInit:C.prog.inits.idxOf? f=none) (hfn:C.prog.funcs[f]?=some fn)
 (witness:∃(w:World)(tape:Tape)(i:Input),w.os=os/\(w.forCall tape i).Shaped C.prog/\i.vars=[]/\Input.okWide C.prog (w.forCall tape i) .any w.heap.size f i/\
  ((s.pre enc C.prog fn conds apart (w.forCall tape i).memory i.args/\X (w.forCall tape i).memory i.args)/\sizedMet enc C.prog fn (OpenSpec.ofChange s) apart (w.forCall tape i).memory i.args)/\a.holds C.prog (lone (Frame.enter C.prog f i.args .normal) [] (w.forCall tape i)))
 (contract:∀(W:World)(base:Nat)(args:Array Value)(ds gs:List (DataW H))(before:List MemPlace),
  (∀(j:Nat) t v,fn.params[j]?=some t->args[j]?=some v->Value.okWide C.prog W .any base t v)->
  DataW.Whole enc C.prog fn.params.toList s.vars apart W args.toList ds gs before->
  conds.all (PathCond.test C.prog ⟨fn.params.toList,ds,s.plain.varTypes C.prog,gs⟩)=true->
  (DataW.weightsEach C.prog (fn.params.toList++s.plain.varTypes C.prog) (ds++gs)).all (·<=reachBytes)=true->X W args->
  W.ShapedOpen C.prog->
  a.holds C.prog (lone (Frame.enter C.prog f args .normal) [] W)->
  Calls C.prog f args W fun e W'=>∃v,e= .returned v/\s.post enc C.prog fn apart fresh handsOn again W args v W'):
 ReturnsInHanded a C os f .any (fun w args=>(s.pre enc C.prog fn conds apart w args/\X w args)/\sizedMet enc C.prog fn (OpenSpec.ofChange s) apart w args) (s.post enc C.prog fn apart fresh handsOn again):=by
 refine returnsInHanded_of_calls own started noInit witness ?_;intro w tape i _ hsh _ hok hpre hholds;obtain⟨_,_,_,fn',hfn',_,_,_,_,hval⟩:=hok;have e:fn'=fn:=Option.some.inj (hfn'.symm.trans hfn);subst e;obtain⟨⟨⟨ds,gs,before,hw,hc⟩,hx⟩,hz⟩:=hpre;have hw':=DataW.Whole.of_heap (w':=w.forCall tape i) (by rfl) hw;refine(contract (w.forCall tape i) w.heap.size i.args ds gs before hval hw' hc (hz.weights hw) (hX _ _ _ (by rfl) hx) hsh hholds).mono fun e W' ⟨v,he,hp⟩=>?_;subst he;exact ChangeSpec.post_blind hp
theorem X6y{P:Program}{w:World}{name:String}{k:IntKind}{zs:List Int}{g:Nat}{cs:Ab}(h:Lib.TabIs P w name k zs)(hg:P.globalNamed name=some g)(e:zs.map (fun z=>Value.int k z)=cs):Gc (allB w) w g cs:=by
 unfold Lib.TabIs at h;rw[e]at h;exact Gc.of hg h fun hl=>hl
theorem X6x{P:Program}{c:OpenClaim}(hs:c.start= .entering)(h:P.funcs.any Func.goes=false):false=c.goesBy P:=by
 have h1:∀g:FuncId,((P.funcs[g]?).any Func.goes)=false:=fun g=>by
  cases hg:P.funcs[g]?with
  |none=>rfl
  |some fn=>
   have hm:fn∈P.funcs:=Array.mem_of_getElem? hg;rw[Array.any_eq_false]at h;obtain⟨i,hi,rfl⟩:=Array.getElem_of_mem hm
   simpa using h i hi
 have h2:∀f,P.goes f=false:=fun f=>by
  unfold Program.goes;rw[h,Bool.and_false,Bool.or_false];rw[Bool.eq_false_iff];intro hh;rw[List.any_eq_true]at hh;obtain⟨g,_,hg⟩:=hh;rw[h1 g]at hg;cases hg
 unfold OpenClaim.goesBy Program.goesAt Program.goesFrom;rw[hs];cases P.funcNamed c.func with
 |none=>rfl
 |some f=>simp[h2 f]
end
end Go.Proofs.YtjohcgibbiebkaaGreatDoor
