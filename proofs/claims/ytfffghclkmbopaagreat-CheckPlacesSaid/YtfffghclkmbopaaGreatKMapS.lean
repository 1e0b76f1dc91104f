/- Maps over what a function owns. It holds for every program. -/
import Derived.Test.YtfffghclkmbopaaGreatKMore
import Derived.WalkSpells
import Derived.Laws.Cover3
set_option linter.unusedVariables false
namespace Go.Proofs.YtfffghclkmbopaaGreat

section
variable {P:Program} {ops:Array Oper} {Q:Exit→Act→World→Prop} {rest:List Oper} {n:NF} {J:Nat→Value} {L:List (Nat×Value)} {w w' w0 g:World}
  {d:Nat} {ty:TypeId} {pos:String} {aft:Array Edge} {op:Op} {v:Value} {x y c:Operand} {t t2:TypeId} {T:Nat→Prop} {KK:Act→World→Prop} {Qa:Act→Prop} {C:World→Prop} {G:List Y8} {q p i:Nat}
  {K V:Type} [DecidableEq K] {kd:TypeDesc} {enk:K→Value} {en:V→Value}

theorem mkM {K V:Type} (enk:K→Value) (en:V→Value) (hS:Sep g T w G) (k : ∀ w' r,Im T w T w' → Sep g T w' (Z6k enk en (.map r) (some [])::G)→KK (env n J ((d,.map r)::L)) w') :
    Oper.wp P ⟨some d,.makeMap t none,ty,pos,aft,none⟩ (env n J L) w KK Q :=
  mk hS.lt fun w' b i hm ge nt=>k w' _ i.imm (hS.cons i (fun _ h=>h) (F:=(· = b)) (.inr ⟨b,[],rfl,rfl,hm _ _ _ _,fun k=>Iff.rfl⟩) fun k hk=>by subst hk; exact⟨ge,nt⟩)
theorem muM {kt et:TypeId} {k:K} {u:V} {m:Option (List (K×V))} {l:List (K×V)} (hS:Sep g T w G) (hi:AtR G q (Z6k enk en v m)) (hm:m=some l) (hx:ev n J L x=v) (hy:ev n J L y=enk k) (hc:ev n J L c=en u)
    (hk:Y0p kd enk) (ht:P.underlying t=some (.map kt et)) (hu:P.underlying kt=some kd)
    (k' : ∀ w',Im T w T w' → Sep g T w' (N9 G q (Z6k enk en v (some (Q7t l k u))))→KK (env n J L) w') :
    Oper.wp P ⟨none,.mapUpdate t x y c,ty,pos,aft,none⟩ (env n J L) w KK Q:=by
  obtain⟨F,hF,hn⟩:=hS.getA hi
  rcases hF with ⟨_,h2,_⟩ | ⟨b,l',h1,h2,h3,h4⟩
  · rw [hm] at h2; cases h2
  · rw [hm] at h2;cases h2;refine mu (hx.trans h1) hy hc h3 hk ht hu (hn b ((h4 b).2 rfl)) hS.lt fun w' inn hm' => k' w' inn.imm (hS.put q hi.lt inn fun F' hF' hn' => ?_);rw [hi.at_] at hF'
    rcases hF' with ⟨h6,_,_⟩ | ⟨b',l2,h6,h7,h8,h9⟩
    · rw [h6] at h1; cases h1
    · rw [h6] at h1;cases h1;exact⟨fun k hk=>hk ▸ (h9 _).2 rfl,F',.inr ⟨_,_,h6,rfl,hm',h9⟩,fun k hk=>⟨.inl hk,hn' k hk⟩⟩

theorem r_lkM0 {kt et:TypeId} {z:Value} {kk:K} {m:Option (List (K×V))} {ok:Bool} (hx:ev n J L x=v) (hy:ev n J L y=enk kk) (hA : ∃ F,(Z6k enk en v m).P T w F ∧ ∀ k,F k → ¬ T k) (hk:Y0p kd enk) (ht:P.underlying t=some (.map kt et)) (hu:P.underlying kt=some kd)
    (hz : ∀ w,(zeroValue et).run P w = .ok z w):(execOp (ev n J L) ⟨some d,.lookup t x y ok,ty,pos,aft,none⟩).run P w = .ok (.value (if ok then .tuple #[((D3 m kk).map en).getD z,.bool (D3 m kk).isSome] else ((D3 m kk).map en).getD z)) w:=by
  obtain⟨F,hF,hn⟩:=hA
  rcases hF with ⟨h1,h2,h3⟩ | ⟨b,l',h1,h2,h3,h4⟩
  · subst h2
    have:(Instr.lookup t (.map none) (enk kk) ok).run P w = .ok (if ok then .tuple #[z,.bool false] else z) w:=by
      unfold Instr.lookup;have hf:(Instr.findKey kt (enk kk) []).run P w = .ok none w:=Z1y hu (by rfl);cases ok <;> simp [run_underlying ht,hk.chk P w kt true kk hu,hz,hf]
    simp only [execOp,hx,hy,h1,Sem.run_bind,this,Result.andThen_ok,Sem.run_pure,D3]
    cases ok <;> rfl
  · subst h2;have:=X0j (P:=P) (w:=w) (ok:=ok) h3 hk ht hu hz kk
    simp only [execOp,hx,hy,h1,Sem.run_bind,this,Result.andThen_ok,Sem.run_pure,D3]
    cases ok <;> rfl
theorem r_lkM {kt et:TypeId} {z:Value} {kk:K} {u:V} {m:Option (List (K×V))} (hx:ev n J L x=v) (hy:ev n J L y=enk kk) (hA : ∃ F,(Z6k enk en v m).P T w F ∧ ∀ k,F k → ¬ T k) (hk:Y0p kd enk) (ht:P.underlying t=some (.map kt et)) (hu:P.underlying kt=some kd)
    (hz : ∀ w,(zeroValue et).run P w = .ok z w) (hz' : z=en u):(execOp (ev n J L) ⟨some d,.lookup t x y false,ty,pos,aft,none⟩).run P w = .ok (.value (en ((D3 m kk).getD u))) w:=by
  have h:=r_lkM0 (d:=d) (ty:=ty) (pos:=pos) (aft:=aft) (ok:=false) hx hy hA hk ht hu hz;rw [h];subst hz';cases D3 m kk <;> rfl
theorem Z6g {kt et:TypeId} {z:Value} {kk:K} {u:V} {m:Option (List (K×V))} (hx:ev n J L x=v) (hy:ev n J L y=enk kk) (hA : ∃ F,(Z6k enk en v m).P T w F ∧ ∀ k,F k → ¬ T k) (hk:Y0p kd enk) (ht:P.underlying t=some (.map kt et)) (hu:P.underlying kt=some kd)
    (hz : ∀ w,(zeroValue et).run P w = .ok z w) (hz' : z=en u):(execOp (ev n J L) ⟨some d,.lookup t x y true,ty,pos,aft,none⟩).run P w = .ok (.value (.tuple #[en ((D3 m kk).getD u),.bool (D3 m kk).isSome])) w:=by
  have h:=r_lkM0 (d:=d) (ty:=ty) (pos:=pos) (aft:=aft) (ok:=true) hx hy hA hk ht hu hz;rw [h];subst hz';cases D3 m kk <;> rfl
end
section
variable {P:Program} {ops:Array Oper} {Q:Exit→Act→World→Prop} {rest:List Oper} {n:NF} {J:Nat→Value} {L:List (Nat×Value)} {w w' w0 g:World}
  {d:Nat} {ty:TypeId} {pos:String} {aft:Array Edge} {op:Op} {v:Value} {x y c:Operand} {t t2:TypeId} {T:Nat→Prop} {KK:Act→World→Prop} {Qa:Act→Prop} {C:World→Prop} {G:List Y8} {q p i:Nat}
  {K V:Type} {enk:K→Value} {en:V→Value}
theorem r_lnM {kt et:TypeId} {m:Option (List (K×V))} (hx:ev n J L x=v) (hA : ∃ F,(Z6k enk en v m).P T w F ∧ ∀ k,F k → ¬ T k) (ht:P.underlying t=some (.map kt et)) :
    (execOp (ev n J L) ⟨some d,.call ⟨.builtin .len,#[x],#[t]⟩,ty,pos,aft,none⟩).run P w = .ok (.value (.int .i64 (Z3y m:Int))) w:=by
  obtain⟨F,hF,hn⟩:=hA
  have hr:(Builtin.len_ #[t] ty #[v]).run P w = .ok (.int .i64 (Z3y m:Int)) w:=by
    rcases hF with ⟨h1,h2,h3⟩ | ⟨b,l',h1,h2,h3,h4⟩
    · subst h2;rw [h1]
      simp [Builtin.len_,run_underlying ht,goInt,Z3y]
    · subst h2;rw [h1];obtain⟨es,clock,hg,he⟩:=h3
      have:es.size=l'.length:=by
        have:=congrArg List.length he
        simpa using this
      simp [Builtin.len_,run_underlying ht,goInt,Z3y,Z3u hg,this]
  simp only [execOp,resolve,invoke,builtin,Sem.run_bind,Sem.run_pure,Result.andThen_ok,List.map_toArray,List.map_cons,List.map_nil,hx,hr]
end
end Go.Proofs.YtfffghclkmbopaaGreat
