/- What steps that close a whole way of a walk by themselves lean on. It holds for every program. -/
import Derived.Test.YtfffghclkmbopaaGreatKAuto
import Derived.Test.YtfffghclkmbopaaGreatKAuP
set_option linter.unusedVariables false
namespace Go.Proofs.YtfffghclkmbopaaGreat

/-- The contract of a function, found by its number. -/
class Ctr (P:Program) (f:Nat) (C:outParam Prop):Prop where
  out:C
  ok:Y3 P f
theorem Y7s (L:List Y8):K6 L=L.length:=by
  induction L with
  | nil=>rfl
  | cons A L ih=>simp [K6,ih]
theorem Y5p (L:List Y8) (i:Nat):atA L i=L.getD i empA:=by
  induction L generalizing i with
  | nil=>simp [atA]
  | cons A L ih=>cases i with
    | zero=>rfl
    | succ i=>simp [atA,ih]
theorem Z2y (L:List Y8) (ix:List Nat):Z8i L ix=ix.map (atA L):=by
  induction ix with
  | nil=>rfl
  | cons i ix ih=>simp [Z8i,ih]
theorem Y3x {n:Nat} : ∀ {ix:List Nat},(∀ i ∈ ix,i < n)→ix.Nodup→Y4y n ix=true
  | [],_,_=>rfl
  | i::r,h,hn=>by
    rw [List.nodup_cons] at hn
    simp only [Y4y,Bool.and_eq_true,List.all_eq_true]
    refine⟨⟨by simpa [Nat.blt_eq] using h i (by simp),fun j hj => ?_⟩,Y3x (fun j hj=>h j (by simp [hj])) hn.2⟩
    have hij:i ≠ j:=fun e=>hn.1 (e ▸ hj)
    have:Nat.beq i j=false:=by
      cases e:Nat.beq i j with
      | false=>rfl
      | true=>exact absurd (Nat.eq_of_beq_eq_true e) hij
    rw [this]
    rfl
theorem perm_ix {L L' : List Y8} (p:L.Perm L') : ∃ ix:List Nat,Z8i L ix=L' ∧ (∀ i ∈ ix,i < L.length)∧ix.Nodup:=by
  induction p with
  | nil=>exact⟨[],rfl,by simp,List.nodup_nil⟩
  | @cons x l l' _ ih =>
    obtain⟨ix,h1,h2,h3⟩:=ih;refine⟨0::ix.map (· + 1),?_,?_,?_⟩
    · rw [Z2y] at h1 ⊢;rw [List.map_cons,List.map_map];show x::ix.map _=_;rw [show (atA (x::l) ∘ fun i=>i+1)=atA l from rfl,h1]
    · intro i hi
      simp only [List.mem_cons,List.mem_map] at hi
      rcases hi with rfl | ⟨j,hj,rfl⟩
      · simp
      · have:=h2 j hj
        simp only [List.length_cons]
        omega
    · rw [List.nodup_cons];refine⟨by simp,?_⟩;rw [List.nodup_iff_pairwise_ne,List.pairwise_map];exact(List.nodup_iff_pairwise_ne.1 h3).imp fun h e=>h (by omega)
  | swap x y l =>
    refine⟨1::0::(List.range l.length).map (· + 2),?_,?_,?_⟩
    · rw [Z2y]
      simp only [List.map_cons,List.map_map]
      show x::y::_=_
      congr 2
      refine List.ext_getElem (by simp) fun i h1 h2 => ?_
      simp only [List.getElem_map,List.getElem_range,Function.comp]
      show atA l i=_;rw [Y5p,List.getD_eq_getElem?_getD,List.getElem?_eq_getElem h2]
      rfl
    · intro i hi
      simp only [List.mem_cons,List.mem_map,List.mem_range] at hi
      simp only [List.length_cons]
      rcases hi with rfl | rfl | ⟨j,hj,rfl⟩ <;> omega
    · rw [List.nodup_cons,List.nodup_cons];refine⟨by simp,by simp,?_⟩;rw [List.nodup_iff_pairwise_ne,List.pairwise_map];exact(List.nodup_iff_pairwise_ne.1 List.nodup_range).imp fun h e=>h (by omega)
  | @trans a b c _ _ ih1 ih2 =>
    obtain⟨ix,h1,h2,h3⟩:=ih1;obtain⟨jx,g1,g2,g3⟩:=ih2;have hl:b.length=ix.length:=by rw [← h1,Z2y,List.length_map]
    refine⟨jx.map fun j=>ix.getD j 0,?_,?_,?_⟩
    · rw [← g1,Z2y,Z2y,List.map_map];refine List.map_congr_left fun j hj => ?_;have:=g2 j hj
      simp only [Function.comp]
      rw [← h1,Z2y,Y5p (List.map _ _),List.getD_eq_getElem?_getD,List.getD_eq_getElem?_getD,List.getElem?_map,List.getElem?_eq_getElem (by omega)]
      rfl
    · intro i hi;obtain⟨j,hj,rfl⟩:=List.mem_map.1 hi;have:=g2 j hj;rw [List.getD_eq_getElem?_getD,List.getElem?_eq_getElem (by omega)];exact h2 _ (List.getElem_mem _)
    · rw [List.nodup_iff_pairwise_ne,List.pairwise_map];refine List.Pairwise.imp_of_mem ?_ (List.nodup_iff_pairwise_ne.1 g3);intro i j hi hj h e;have hi:=g2 i hi;have hj:=g2 j hj;rw [List.getD_eq_getElem?_getD,List.getElem?_eq_getElem (by omega),List.getD_eq_getElem?_getD,List.getElem?_eq_getElem (by omega)] at e;exact h ((List.getElem_inj h3).1 e)
section
variable {g:World} {T:Nat→Prop} {w:World} {G G' N rest R:List Y8} {A B:Y8}
theorem Sep.perm (h:Sep g T w G) (p:G.Perm G'):Sep g T w G' := by
  obtain⟨ix,h1,h2,h3⟩:=perm_ix p;rw [← h1];exact h.sel ix (Y3x (by rw [Y7s]; exact h2) h3)
theorem Sep.bunL (h:Sep g T w (N++rest)):Sep g T w (Y5 rest::N):=by
  have e1:Z8i (N++rest) (List.range N.length)=N:=by
    rw [Z2y];refine List.ext_getElem (by simp) fun i h1 h2 => ?_
    simp only [List.getElem_map,List.getElem_range]
    rw [Y5p,List.getD_eq_getElem?_getD,List.getElem?_append_left h2,List.getElem?_eq_getElem h2]
    rfl
  have e2:Z8i (N++rest) (List.range' N.length rest.length)=rest:=by
    rw [Z2y];refine List.ext_getElem (by simp) fun i h1 h2 => ?_
    simp only [List.getElem_map,List.getElem_range']
    rw [Y5p,List.getD_eq_getElem?_getD,List.getElem?_append_right (by omega),show N.length+1 * i - N.length=i by omega,List.getElem?_eq_getElem h2]
    rfl
  have:=h.bun (List.range' N.length rest.length) (List.range N.length) (Y3x (by
    intro i hi;rw [Y7s,List.length_append]
    rcases List.mem_append.1 hi with hi | hi
    · have:=List.mem_range.1 hi; omega
    · have:=(List.mem_range'_1.1 hi).2; omega) (by
    rw [List.nodup_append];refine⟨List.nodup_range,List.nodup_range',fun a ha b hb e => ?_⟩;have h1:=List.mem_range.1 ha;have h2:=List.mem_range'_1.1 hb;omega))
  rw [e1,e2] at this;exact this
/-- One is taken out. -/
def Rmv (G:List Y8) (A:Y8) (G' : List Y8):Prop:=G.Perm (A::G')
theorem rmH (e:G=B::G') (h:B=A):Rmv G A G' := by subst e; subst h; exact List.Perm.refl _
theorem rmT {G1 G2:List Y8} (e:G=B::G1) (h:Rmv G1 A G2):Rmv G A (B::G2):=by
  subst e;exact(List.Perm.cons B h).trans (List.Perm.swap A B G2)
/-- Some are taken out. -/
def Pks (G N rest:List Y8):Prop:=G.Perm (N++rest)
theorem pk0:Pks G [] G:=List.Perm.refl _
theorem pkC {G1:List Y8} (h:Rmv G A G1) (k:Pks G1 N rest):Pks G (A::N) rest:=h.trans (List.Perm.cons A k)
theorem pkS {G1:List Y8} (e:G=B::G1) (h:Pks G1 N rest):Pks G N (B::rest):=by
  subst e;exact(List.Perm.cons B h).trans (List.perm_middle.symm)
theorem Sep.pkB (S:Sep g T w G) (h:Pks G N rest):Sep g T w ([Y5 rest]++N):=(S.perm h).bunL
theorem Sep.pkC (S:Sep g T w G) (h:Pks G N rest):Sep g T w (Y5 rest::N):=(S.perm h).bunL
theorem Sep.pkE (S:Sep g T w G) (h:Pks G N rest):Sep g T w N:=by
  have h1:=S.perm h
  have e1:Z8i (N++rest) (List.range N.length)=N:=by
    rw [Z2y];refine List.ext_getElem (by simp) fun i h1 h2 => ?_
    simp only [List.getElem_map,List.getElem_range]
    rw [Y5p,List.getD_eq_getElem?_getD,List.getElem?_append_left h2,List.getElem?_eq_getElem h2]
    rfl
  have:=h1.sel (List.range N.length) (Y3x (by intro i hi; rw [Y7s,List.length_append]; have:=List.mem_range.1 hi; omega) List.nodup_range);rw [e1] at this;exact this
theorem Sep.pkR (S:Sep g T w G) (h:Pks G (Y5 R::N) rest):Sep g T w (R++N):=(S.pkE h).unb
end
theorem bindI {α β : Type} {l:List α} {i:Int} {f : α → Option β} {r : β} (h:(idx l i).bind f=some r) : ∃ x,idx l i=some x∧f x=some r:=bindS h
theorem bindR {β : Type} {n:Nat} {f:Unit→Option β} {r : β} (h:(S0 n).bind f=some r):n≤8589934592∧f ()=some r:=by
  obtain⟨u,h1,h2⟩:=bindS h;exact⟨U3 h1,h2⟩
section
variable {P:Program} {ops:Array Oper} {Q:Exit→Act→World→Prop} {rest:List Oper} {n:NF} {J:Nat→Value} {L:List (Nat×Value)} {w:World}
  {d:Nat} {ty:TypeId} {pos:String} {aft:Array Edge} {T:Nat→Prop} {f:FuncId} {fo:Operand} {ca:Array Value} {args:List Value} {xs:Array Operand} {tys:Array TypeId} {Pr:Prop}
theorem zcB {α A:Type} {m:Option α} {kk : α → Option A} {r:A} {Ro : α → (Nat→Prop)→World→Value→Prop} {g:World} {G:List Y8} (_:Sep g T w G) (hm:m.bind kk=some r)
    (hf:ev n J L fo = .func (.func f) #[] ca) (i:Ctr P f Pr) (ha:xs.toList.map (ev n J L)++ca.toList=args) (hc:Pr → ∀ y,m=some y→Calls P f args.toArray w (U7 T w (Ro y)))
    (k : ∀ y v T' w',Im T w T' w' → Ro y T' w' v→kk y=some r→wpList P ops Q rest (env n J ((d,v)::L)) w') :
    wpList P ops Q (⟨some d,.call ⟨.value fo,xs,tys⟩,ty,pos,aft,none⟩::rest) (env n J L) w:=wcB i.ok hm (hc i.out) k hf ha
theorem zcBN {α A:Type} {m:Option α} {kk : α → Option A} {r:A} {Ro : α → (Nat→Prop)→World→Value→Prop} {g:World} {G:List Y8} (_:Sep g T w G) (hm:m.bind kk=some r)
    (hf:ev n J L fo = .func (.func f) #[] ca) (i:Ctr P f Pr) (ha:xs.toList.map (ev n J L)++ca.toList=args) (hc:Pr → ∀ y,m=some y→Calls P f args.toArray w (U7 T w (Ro y)))
    (k : ∀ y v T' w',Im T w T' w' → Ro y T' w' v→kk y=some r→wpList P ops Q rest (env n J L) w') :
    wpList P ops Q (⟨none,.call ⟨.value fo,xs,tys⟩,ty,pos,aft,none⟩::rest) (env n J L) w:=wcBN i.ok hm (hc i.out) k hf ha
theorem zcP {α A E:Type} {m:Option (Except E α)} {ko : α → Option A} {ke:E→Option A} {r:A} {Ro : α → (Nat→Prop)→World→Value→Prop} {Re:E→(Nat→Prop)→World→Value→Prop} {g:World} {G:List Y8} (_:Sep g T w G) (hm:(m.bind fun y=>exC y ko ke)=some r)
    (hf:ev n J L fo = .func (.func f) #[] ca) (i:Ctr P f Pr) (ha:xs.toList.map (ev n J L)++ca.toList=args) (hc:Pr → ∀ y,m=some y→Calls P f args.toArray w (exR y (fun x=>U7 T w (Ro x)) (fun e=>A5 T w (Re e))))
    (k1 : ∀ e v T' w',Im T w T' w' → Re e T' w' v→ke e=some r→Q (.panic [{v,recovered:=false}]) (env n J L) w')
    (k2 : ∀ x v T' w',Im T w T' w' → Ro x T' w' v→ko x=some r→wpList P ops Q rest (env n J ((d,v)::L)) w') :
    wpList P ops Q (⟨some d,.call ⟨.value fo,xs,tys⟩,ty,pos,aft,none⟩::rest) (env n J L) w:=wcP i.ok hm (hc i.out) k1 k2 hf ha
theorem zcPN {α A E:Type} {m:Option (Except E α)} {ko : α → Option A} {ke:E→Option A} {r:A} {Ro : α → (Nat→Prop)→World→Value→Prop} {Re:E→(Nat→Prop)→World→Value→Prop} {g:World} {G:List Y8} (_:Sep g T w G) (hm:(m.bind fun y=>exC y ko ke)=some r)
    (hf:ev n J L fo = .func (.func f) #[] ca) (i:Ctr P f Pr) (ha:xs.toList.map (ev n J L)++ca.toList=args) (hc:Pr → ∀ y,m=some y→Calls P f args.toArray w (exR y (fun x=>U7 T w (Ro x)) (fun e=>A5 T w (Re e))))
    (k1 : ∀ e v T' w',Im T w T' w' → Re e T' w' v→ke e=some r→Q (.panic [{v,recovered:=false}]) (env n J L) w')
    (k2 : ∀ x v T' w',Im T w T' w' → Ro x T' w' v→ko x=some r→wpList P ops Q rest (env n J L) w') :
    wpList P ops Q (⟨none,.call ⟨.value fo,xs,tys⟩,ty,pos,aft,none⟩::rest) (env n J L) w:=wcPN i.ok hm (hc i.out) k1 k2 hf ha
end
section
variable {P:Program} {ops:Array Oper} {Q:Exit→Act→World→Prop} {rest:List Oper} {n:NF} {J:Nat→Value} {L:List (Nat×Value)} {w:World} {T:Nat→Prop} {g:World} {G:List Y8}
  {d:Nat} {ty t:TypeId} {pos:String} {aft:Array Edge} {q b j sz o:Nat} {cur cs zs:List Value} {x y:Operand} {v z:Value} {H:List Value→Y8}
theorem zst (hS:Sep g T w G) (hx:ev n J L x = .pointer (some ⟨b,j,none⟩)) (hi:AtR G q (U5 b cur)) (hs : ∀ w,(sizeOf t).run P w = .ok sz w) (hy:ev n J L y=v) (hv:v.cells.toList=cs) (hl:cs.length=sz) (h1:cs.all Value.oneCell' = true) (hfit:Nat.ble (j+cs.length) cur.length=true)
    (k : ∀ w',Im T w T w' → Sep g T w' (N9 G q (U5 b (O4 cur j cs)))→wpList P ops Q rest (env n J L) w') :
    wpList P ops Q (⟨none,.store t x y,ty,pos,aft,none⟩::rest) (env n J L) w:=wst ⟨trivial⟩ hS hs k hi hx hy hv hl h1 hfit
theorem zsb (hS:Sep g T w G) (hx:ev n J L x = .pointer (some ⟨b,o+j,none⟩)) (hL:Ln b o H) (hi:AtR G q (H cur)) (hs : ∀ w,(sizeOf t).run P w = .ok sz w) (hy:ev n J L y=v) (hv:v.cells.toList=cs) (hl:cs.length=sz) (h1:cs.all Value.oneCell' = true) (hfit:Nat.ble (j+cs.length) cur.length=true)
    (k : ∀ w',Im T w T w' → Sep g T w' (N9 G q (H (O4 cur j cs)))→wpList P ops Q rest (env n J L) w') :
    wpList P ops Q (⟨none,.store t x y,ty,pos,aft,none⟩::rest) (env n J L) w:=wsb ⟨trivial⟩ ⟨trivial⟩ hL hS hs k hi hx hy hv hl h1 hfit
theorem zal (hS:Sep g T w G) (hz : ∀ w,(zeroValue t).run P w = .ok z w) (hc:z.cells.toList=zs) (k : ∀ w' b,Im T w T w' → Sep g T w' (U5 b zs::G)→wpList P ops Q rest (env n J ((d,.pointer (some ⟨b,0,none⟩))::L)) w') :
    wpList P ops Q (⟨some d,.alloc t,ty,pos,aft,none⟩::rest) (env n J L) w:=wal ⟨trivial⟩ hS hz k hc
theorem zbx (hS:Sep g T w G) (hx:ev n J L x=v) (hc:v.cells.toList=cs) (k : ∀ w' b,Im T w T w' → Sep g T w' (U5 b cs::G)→wpList P ops Q rest (env n J ((d,.pointer (some ⟨b,0,none⟩))::L)) w') :
    wpList P ops Q (⟨some d,.box t x,ty,pos,aft,none⟩::rest) (env n J L) w:=wbx ⟨trivial⟩ hS k hx hc
end
theorem nnS {α : Type} {r : α} {A:Prop} (h:(none:Option α)=some r):A:=nomatch h
theorem bindN {β : Type} {n:Int} {f:Unit→Option β} {r : β} (h:(nz n).bind f=some r):n ≠ 0∧f ()=some r:=by
  obtain⟨u,h1,h2⟩:=bindS h;unfold nz at h1
  split at h1
  · cases h1
  · exact⟨by assumption,h2⟩
theorem bindU {α β : Type} {l:List α} {a b:Int} {f:List α → Option β} {r : β} (h:(sub l a b).bind f=some r) : ∃ x,sub l a b=some x∧f x=some r:=bindS h
/-- What is built, by the places of its fields. -/
def bldL (z:List Value) (fs:Array Field):List (Nat×Value)→List Value
  | []=>z
  | (i,v)::l=>bldL (O4 z ((fs[i]?.map Field.offset).getD 0) v.cells.toList) fs l
section
variable {P:Program} {n:NF} {J:Nat→Value} {L:List (Nat×Value)} {w:World} {d:Nat} {ty t:TypeId} {pos:String} {aft:Array Edge}
theorem r_ldZ {b o k sz:Nat} {x:Operand} {cells cs:List Value} (hx:ev n J L x = .pointer (some ⟨b,o+k,none⟩)) (ht : ∀ w,(isAgg t).run P w = .ok true w) (hs : ∀ w,(sizeOf t).run P w = .ok sz w) (hc:cellsAt w b o cells) (he:(cells.drop k).take sz=cs) (hl:cs.length=sz) :
    (execOp (ev n J L) ⟨some d,.load t x,ty,pos,aft,none⟩).run P w = .ok (.value (.agg cs.toArray)) w:=Y6i hx ht hs hl (hc.sub k (by rw [hl]; exact he))
theorem zbd {z:Value} {fs:Array Field} {parts:Array (Nat×Operand)} {cs:List Value} (_ : ∀ w,(zeroValue t).run P w = .ok z w) (_:P.underlying t=some (.struct fs)) (_:bldL z.cells.toList fs (parts.toList.map fun p=>(p.1,ev n J L p.2))=cs) (h:P.built t (parts.toList.map fun p=>(p.1,ev n J L p.2))=some cs.toArray) :
    (execOp (ev n J L) ⟨some d,.build t parts,ty,pos,aft,none⟩).run P w = .ok (.value (.agg cs.toArray)) w:=F9 h rfl
end
/-! Regions that draw their order: what waits for what is handed in (D). -/
structure KD (D:List (Nat×List Nat)):Prop where
  out:True
def lkD:List (Nat×List Nat)→Nat→List Nat
  | [],_ => []
  | e::D,j=>cond (Nat.beq e.1 j) e.2 (lkD D j)
def memD:List Nat→Nat→Bool
  | [],_=>false
  | x::l,j=>cond (Nat.beq x j) true (memD l j)
def filD (D:List (Nat×List Nat)) (j:Nat):List (Nat×Value)→List (Nat×Value)
  | [] => []
  | p::pd=>cond (memD (lkD D j) p.1) (filD D j pd) (p::filD D j pd)
def freeD (R:List Nat):List Nat→Bool
  | []=>true
  | z::l=>cond (memD R z) false (freeD R l)
def keyD:List (Nat×List Nat)→Nat→Bool
  | [],_=>false
  | e::D,j=>cond (Nat.beq e.1 j) true (keyD D j)
def enD (D:List (Nat×List Nat)) (R:List Nat):List Nat→List Nat
  | [] => []
  | y::l=>cond (keyD D y) (cond (freeD R (lkD D y)) (y::enD D R l) (enD D R l)) (enD D R l)
def rmD (j:Nat):List Nat→List Nat
  | [] => []
  | y::l=>cond (Nat.beq y j) (rmD j l) (y::rmD j l)
section
variable {P:Program} {l:List Oper} {fl:List Nat} {Q:Exit→Act→World→Prop} {pd pd2:List (Nat×Value)} {i j:Nat} {is js R R' : List Nat} {n:NF} {J:Nat→Value} {L:List (Nat×Value)} {w:World}
  {d:Nat} {ty:TypeId} {pos:String} {aft:Array Edge} {op:Op} {gd:Option (Nat×Bool)} {D:List (Nat×List Nat)} {m:Nat} {a:Act} {KK:Act→World→Prop}
theorem idS (h:C7 P l fl Q pd is a w):C7 P l fl Q pd is a w:=h
theorem idT (h:Q0q P l fl Q m pd is a w):Q0q P l fl Q m pd is a w:=h
theorem s2Z {dst:Option Tmp} (_:KD D) (_:filD D i pd=pd2) (ho:l[i]? = some ⟨dst,op,ty,pos,aft,gd⟩) (hw:Wt l n J L gd) (hf:fl.getD i 2=2) (hp:(pd.filter fun p => !((Q8p l).getD i 0).testBit p.1)=pd2)
    (h:Oper.wp P ⟨dst,op,ty,pos,aft,none⟩ (env n J L) w (fun a' w' => Z0y P l pd2 a' w' ∧ C7 P l fl Q pd2 is a' w') Q):C7 P l fl Q pd (i::is) (env n J L) w:=s2 pd2 ho hw hf hp h
theorem twZ {kk:Nat} (_:KD D) (hk:kk=m+1) (_:enD D (i::is) (i::is)=js) (ho:(l[i]?).isSome=true) (hwt : ∀ o,l[i]? = some o→Q6v l o (env n J L)=true) (hf:fl.getD i 2=2) (hjs:js.all (fun j=>nzB fl j)=true) (hB:twB l fl (Q8p l) (i::is) js=true)
    (h:Brs P l fl Q m pd (i::is) (env n J L) w js):Q0q P l fl Q kk pd (i::is) (env n J L) w:=by subst hk; exact tw js ho hwt hf hjs hB h
theorem brZ {dst:Option Tmp} (_:KD D) (_:rmD j R=R') (_:filD D j pd=pd2) (ho:l[j]? = some ⟨dst,op,ty,pos,aft,gd⟩) (hb:brB R R' j=true) (hq:Z6j l fl (Q8p l) R' = true) (hw:Wt l n J L gd)
    (hp:(pd.filter fun p => !((Q8p l).getD j 0).testBit p.1)=pd2)
    (h:Oper.wp P ⟨dst,op,ty,pos,aft,none⟩ (env n J L) w (fun a' w' => Z0y P l pd2 a' w' ∧ Q0q P l fl Q m pd2 R' a' w') Q):Br P l fl Q m pd R (env n J L) w j:=br R' pd2 ho hb hq hw hp h
theorem brs0:Brs P l fl Q m pd R a w []:=trivial
theorem brsC (h:Br P l fl Q m pd R a w j) (k:Brs P l fl Q m pd R a w js):Brs P l fl Q m pd R a w (j::js):=⟨h,k⟩
variable {T:Nat→Prop} {g:World} {G:List Y8} {f:FuncId} {fo:Operand} {ca:Array Value} {args:List Value} {xs:Array Operand} {tys:Array TypeId} {Pr:Prop} {S:(Nat→Prop)→World→Value→Prop}
theorem zoS (_:Sep g T w G) (hf:ev n J L fo = .func (.func f) #[] ca) (i:Ctr P f Pr) (ha:xs.toList.map (ev n J L)++ca.toList=args) (hc:Pr→Calls P f args.toArray w (U7 T w S))
    (k : ∀ v T' w',Im T w T' w' → S T' w' v→KK (env n J ((d,v)::L)) w'):Oper.wp P ⟨some d,.call ⟨.value fo,xs,tys⟩,ty,pos,aft,none⟩ (env n J L) w KK Q:=calS i.ok hf (hc i.out) ha k
theorem zoN (_:Sep g T w G) (hf:ev n J L fo = .func (.func f) #[] ca) (i:Ctr P f Pr) (ha:xs.toList.map (ev n J L)++ca.toList=args) (hc:Pr→Calls P f args.toArray w (U7 T w S))
    (k : ∀ v T' w',Im T w T' w' → S T' w' v→KK (env n J L) w'):Oper.wp P ⟨none,.call ⟨.value fo,xs,tys⟩,ty,pos,aft,none⟩ (env n J L) w KK Q:=calN i.ok hf (hc i.out) ha k
theorem zoP {dst:Option Tmp} (_:Sep g T w G) (hf:ev n J L fo = .func (.func f) #[] ca) (i:Ctr P f Pr) (ha:xs.toList.map (ev n J L)++ca.toList=args) (hc:Pr→Calls P f args.toArray w (A5 T w S))
    (k : ∀ v T' w',Im T w T' w' → S T' w' v→Q (.panic [{v,recovered:=false}]) (env n J L) w'):Oper.wp P ⟨dst,.call ⟨.value fo,xs,tys⟩,ty,pos,aft,none⟩ (env n J L) w KK Q:=Q7m i.ok hf (hc i.out) ha k
theorem zoE {dst:Option Tmp} {α E:Type} {e:E} {m:Option (Except E α)} {Ro : α → (Nat→Prop)→World→Value→Prop} {Re:E→(Nat→Prop)→World→Value→Prop} (_:Sep g T w G) (_:m=some (Except.error e)) (hf:ev n J L fo = .func (.func f) #[] ca) (i:Ctr P f Pr) (ha:xs.toList.map (ev n J L)++ca.toList=args)
    (hc:Pr→Calls P f args.toArray w (exR (Except.error e:Except E α) (fun x=>U7 T w (Ro x)) (fun e=>A5 T w (Re e))))
    (k : ∀ v T' w',Im T w T' w' → Re e T' w' v→Q (.panic [{v,recovered:=false}]) (env n J L) w'):Oper.wp P ⟨dst,.call ⟨.value fo,xs,tys⟩,ty,pos,aft,none⟩ (env n J L) w KK Q:=Q7m i.ok hf (hc i.out) ha k
theorem zoK {α E:Type} {x : α} {y:Except E α} {Ro : α → (Nat→Prop)→World→Value→Prop} {Re:E→(Nat→Prop)→World→Value→Prop} (_:Sep g T w G) (hf:ev n J L fo = .func (.func f) #[] ca) (i:Ctr P f Pr) (ha:xs.toList.map (ev n J L)++ca.toList=args)
    (hc:Pr→Calls P f args.toArray w (exR y (fun x=>U7 T w (Ro x)) (fun e=>A5 T w (Re e)))) (hy:y=Except.ok x)
    (k : ∀ v T' w',Im T w T' w' → Ro x T' w' v→KK (env n J ((d,v)::L)) w'):Oper.wp P ⟨some d,.call ⟨.value fo,xs,tys⟩,ty,pos,aft,none⟩ (env n J L) w KK Q:=by subst hy; exact calS i.ok hf (hc i.out) ha k
theorem zoKN {α E:Type} {x : α} {y:Except E α} {Ro : α → (Nat→Prop)→World→Value→Prop} {Re:E→(Nat→Prop)→World→Value→Prop} (_:Sep g T w G) (hf:ev n J L fo = .func (.func f) #[] ca) (i:Ctr P f Pr) (ha:xs.toList.map (ev n J L)++ca.toList=args)
    (hc:Pr→Calls P f args.toArray w (exR y (fun x=>U7 T w (Ro x)) (fun e=>A5 T w (Re e)))) (hy:y=Except.ok x)
    (k : ∀ v T' w',Im T w T' w' → Ro x T' w' v→KK (env n J L) w'):Oper.wp P ⟨none,.call ⟨.value fo,xs,tys⟩,ty,pos,aft,none⟩ (env n J L) w KK Q:=by subst hy; exact calN i.ok hf (hc i.out) ha k
variable {t:TypeId} {q b sz o:Nat} {cur cs zs:List Value} {x y:Operand} {v z:Value} {H:List Value→Y8}
theorem zost (hS:Sep g T w G) (hx:ev n J L x = .pointer (some ⟨b,j,none⟩)) (hi:AtR G q (U5 b cur)) (hs : ∀ w,(sizeOf t).run P w = .ok sz w) (hy:ev n J L y=v) (hv:v.cells.toList=cs) (hl:cs.length=sz) (h1:cs.all Value.oneCell' = true) (hfit:Nat.ble (j+cs.length) cur.length=true)
    (k : ∀ w',Im T w T w' → Sep g T w' (N9 G q (U5 b (O4 cur j cs)))→KK (env n J L) w'):Oper.wp P ⟨none,.store t x y,ty,pos,aft,none⟩ (env n J L) w KK Q:=ost ⟨trivial⟩ hS hs k hi hx hy hv hl h1 hfit
theorem zosb (hS:Sep g T w G) (hx:ev n J L x = .pointer (some ⟨b,o+j,none⟩)) (hL:Ln b o H) (hi:AtR G q (H cur)) (hs : ∀ w,(sizeOf t).run P w = .ok sz w) (hy:ev n J L y=v) (hv:v.cells.toList=cs) (hl:cs.length=sz) (h1:cs.all Value.oneCell' = true) (hfit:Nat.ble (j+cs.length) cur.length=true)
    (k : ∀ w',Im T w T w' → Sep g T w' (N9 G q (H (O4 cur j cs)))→KK (env n J L) w'):Oper.wp P ⟨none,.store t x y,ty,pos,aft,none⟩ (env n J L) w KK Q:=osb ⟨trivial⟩ ⟨trivial⟩ hL hS hs k hi hx hy hv hl h1 hfit
theorem zoal (hS:Sep g T w G) (hz : ∀ w,(zeroValue t).run P w = .ok z w) (hc:z.cells.toList=zs) (k : ∀ w' b,Im T w T w' → Sep g T w' (U5 b zs::G)→KK (env n J ((d,.pointer (some ⟨b,0,none⟩))::L)) w') :
    Oper.wp P ⟨some d,.alloc t,ty,pos,aft,none⟩ (env n J L) w KK Q:=oal ⟨trivial⟩ hS hz k hc
theorem zobx (hS:Sep g T w G) (hx:ev n J L x=v) (hc:v.cells.toList=cs) (k : ∀ w' b,Im T w T w' → Sep g T w' (U5 b cs::G)→KK (env n J ((d,.pointer (some ⟨b,0,none⟩))::L)) w') :
    Oper.wp P ⟨some d,.box t x,ty,pos,aft,none⟩ (env n J L) w KK Q:=obx ⟨trivial⟩ hS k hx hc
end
/-- A slice's elements and their cells, handed in. -/
structure HL (k:Nat) {α : Type} (r:Rp α) (l:List α) (css:List (List Value)):Prop where
  out:True
section
variable {P:Program} {Q:Exit→Act→World→Prop} {n:NF} {J:Nat→Value} {L:List (Nat×Value)} {w:World} {KK:Act→World→Prop} {T:Nat→Prop} {g:World} {G:List Y8}
  {d sz:Nat} {ty t:TypeId} {pos:String} {aft:Array Edge} {z:Value} {ops:Array Oper} {rest:List Oper}
theorem zobs (hk:Nat) {α : Type} {r:Rp α} {l:List α} {css:List (List Value)} {e:TypeId} {len:Nat} {parts:Array (Nat×Operand)} {cells:Array Value} (hS:Sep g T w G) (_:HL hk r l css) (ha:Y0f r T w css l) (ht:P.underlying t=some (.slice e)) (hs : ∀ w,(sizeOf e).run P w = .ok sz w) (hz : ∀ w,(zeroValue e).run P w = .ok z w)
    (hc:css.flatten.toArray=cells) (hl:l.length=len) (hle:Nat.ble (len * sz) 16777216=true) (h0:Nat.ble 1 (len * sz)=true)
    (hf:Instr.fill (fun i=>some (i * sz,sz)) ((Array.range (len * sz)).map (z.cells[· % z.cells.size]!)) (parts.toList.map fun p=>(p.1,ev n J L p.2))=some cells) (hr:r.sz=sz)
    (k : ∀ w' a m c,Im T w T w' → Sep g T w' (K3 r e (.slice a m c) l::G)→KK (env n J ((d,.slice a m c)::L)) w'):Oper.wp P ⟨some d,.buildSlice t len parts,ty,pos,aft,none⟩ (env n J L) w KK Q:=obs hS ha ht hs hz k hc hl hle h0 hf hr
theorem zbs (hk:Nat) {α : Type} {r:Rp α} {l:List α} {css:List (List Value)} {e:TypeId} {len:Nat} {parts:Array (Nat×Operand)} {cells:Array Value} (hS:Sep g T w G) (_:HL hk r l css) (ha:Y0f r T w css l) (ht:P.underlying t=some (.slice e)) (hs : ∀ w,(sizeOf e).run P w = .ok sz w) (hz : ∀ w,(zeroValue e).run P w = .ok z w)
    (hc:css.flatten.toArray=cells) (hl:l.length=len) (hle:Nat.ble (len * sz) 16777216=true) (h0:Nat.ble 1 (len * sz)=true)
    (hf:Instr.fill (fun i=>some (i * sz,sz)) ((Array.range (len * sz)).map (z.cells[· % z.cells.size]!)) (parts.toList.map fun p=>(p.1,ev n J L p.2))=some cells) (hr:r.sz=sz)
    (k : ∀ w' a m c,Im T w T w' → Sep g T w' (K3 r e (.slice a m c) l::G)→wpList P ops Q rest (env n J ((d,.slice a m c)::L)) w'):wpList P ops Q (⟨some d,.buildSlice t len parts,ty,pos,aft,none⟩::rest) (env n J L) w:=wbs hS ha ht hs hz k hc hl hle h0 hf hr
end
end Go.Proofs.YtfffghclkmbopaaGreat
