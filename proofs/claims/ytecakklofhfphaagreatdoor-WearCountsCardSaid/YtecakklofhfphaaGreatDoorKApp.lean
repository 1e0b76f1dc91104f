/- Appending to a slice that the function owns. It holds for every program. -/
import Derived.Test.YtecakklofhfphaaGreatDoorKOwn
set_option linter.unusedVariables false
namespace Go.Proofs.YtecakklofhfphaaGreatDoor

structure A7 (P:Program) (e:TypeId) (sz:Nat):Prop where
  inf:(P.info? e).map (fun i=>(i.zero.map (fun z=>z.cells.size),i.size,Nat.ble i.bytes 16384))=some (some sz,sz,true)
  pos:0 < sz
theorem A7.ex {P:Program} {e:TypeId} {sz:Nat} (h:A7 P e sz) : ∃ i z,P.info? e=some i∧i.zero=some z∧i.size=sz∧z.cells.size=sz∧0 < sz∧i.bytes≤16384:=by
  obtain⟨h1,h2⟩:=h
  cases hi:P.info? e with
  | none=>rw [hi] at h1; cases h1
  | some i =>
    rw [hi] at h1
    simp only [Option.map_some,Option.some.injEq,Prod.mk.injEq] at h1
    obtain⟨a,b,c⟩:=h1
    cases hz:i.zero with
    | none=>rw [hz] at a; cases a
    | some z =>
      rw [hz] at a
      simp only [Option.map_some,Option.some.injEq] at a
      exact⟨i,z,rfl,hz,b,a,h2,Nat.le_of_ble_eq_true c⟩

theorem Z7a {P:Program} (w:World) (base:Nat) (t ty e:TypeId) (i:TypeInfo) (z:Value) (size bytes:Nat) (ht:P.underlying t=some (.slice e)) (hi:P.info? e=some i) (hz:i.zero=some z)
    (hsize:i.size=size) (hby:i.bytes=bytes) (hzs:z.cells.size=size) (hsz:0 < size)
    (v:Value) (n:Nat) (xs:List Value) (hown:w.ownsRow base e size v n xs)
    (a:Addr) (m c:Nat) (news:List Value) (hl:news.length=m * size) (hnews : ∀ j u,news[j]? = some u→w.cell? (a.add j)=some u) (h1 : ∀ u ∈ news,u.oneCell' = true)
    (h63:n+m≤maxLen) (hbytes:(n+m) * bytes≤140737488355328) (hbase:base≤w.heap.size) :
    ∃ v' w',(Builtin.append_ #[t,t] ty #[v,.slice (some a) m c]).run P w = .ok v' w' ∧ w'.ownsRow base e size v' (n+m) (xs++news)∧w.grownBy w' v.ownBlock ∧
      (v'.ownBlock=v.ownBlock ∨ v'.ownBlock=some w.heap.size):=by
  obtain⟨v',w',hr,ho,hg,hn⟩:=run_append_own (P:=P) w base t ty e i z size bytes ht hi hz hsize hby hzs hsz v n xs hown a m c news hl hnews h1 h63 hbytes hbase
  refine⟨v',w',hr,ho,hg,?_⟩
  have same : ∀ {u:Value} {w2:World},(Builtin.append_ #[t,t] ty #[v,.slice (some a) m c]).run P w = .ok u w2→v' = u:=fun h=>by
    rw [hr] at h
    cases h
    rfl
  have hbig:n+m≤9223372036854775807:=by simp only [maxLen] at h63; omega
  subst hsize
  subst hby
  rcases hown.2 with ⟨rfl,rfl⟩ | ⟨g,cap,cur,rfl,_,hgg,hnc,_,hcs,htake⟩
  · by_cases hm:m=0
    · exact .inl (by rw [hn.2 ⟨rfl,hm⟩])
    · rw [same (run_append_nil (P:=P) w t ty e i z ht hi hz a m c news hl hnews (by omega) (by omega) (by have h:=hbytes; simp only [Nat.zero_add] at h; omega))]
      exact .inr rfl
  · by_cases hroom:n+m≤cap
    · have hfit:n * i.size+news.length≤cur.size:=by
        rw [hl,hcs,← Nat.add_mul]
        exact Nat.mul_le_mul_right _ hroom
      rw [same (run_append_room (P:=P) w t ty e i ht hi g n cap cur hgg a m c news hl hnews h1 hroom hfit)]
      exact .inl rfl
    · rw [same (run_append_grow (P:=P) w t ty e i z ht hi hz ⟨g,0,none⟩ n cap xs hown.1 (hown.cells (g:=g) rfl) a m c news hl hnews (by omega) (by omega) (growslice_fits (by omega) hbytes))]
      exact .inr rfl

section
variable {P:Program} {ops:Array Oper} {Q:Exit→Act→World→Prop} {rest:List Oper} {n:NF} {J:Nat→Value} {L:List (Nat×Value)} {w w' w0:World}
  {d:Nat} {ty:TypeId} {pos:String} {aft:Array Edge} {op:Op} {v:Value} {x y c:Operand} {t t2:TypeId} {T:Nat→Prop} {KK:Act→World→Prop}

theorem Y1w {α : Type} {r:Rp α} {e:TypeId} {B:Nat} {l us:List α} {ad:Addr} {cp:Nat} {css:List (List Value)} (hx:ev n J L x=v) (ho:OwS r e B T w v l) (hy:ev n J L y = .slice (some ad) us.length cp)
    (hlen:css.length=us.length) (hr : ∀(i:Nat) (cs:List Value) (u : α),css[i]? = some cs→us[i]? = some u→r.rp T w cs u) (hc : ∀ j u,css.flatten[j]? = some u→w.cell? (ad.add j)=some u)
    (ht:P.underlying t=some (.slice e)) (he:A7 P e r.sz) (hroom:l.length+us.length≤8589934592) (hb:Bd T w) (hB:B≤w.heap.size)
    (k : ∀ v' w',Inn w.heap.size (ownS v) T w T w' → OwS r e B T w' v' (l++us)→(∀ b,b < w.heap.size→Dj v b→Dj v' b)→KK (env n J ((d,v')::L)) w') :
    Oper.wp P ⟨some d,.call ⟨.builtin .append,#[x,y],#[t,t]⟩,ty,pos,aft,none⟩ (env n J L) w KK Q:=by
  obtain⟨i,z,hi,hz,hsz,hzs,hpos,hby⟩:=he.ex
  have ho' := ho
  obtain⟨cs0,h1,h2,h3,h4⟩:=ho
  have hs1:=OwS.sizes hlen hr
  have hfl:css.flatten.length=us.length * r.sz:=by
    rw [List.length_flatten,← hlen]
    clear hc hr hlen
    induction css with
    | nil=>simp
    | cons c css ih=>simp [hs1 c (by simp),ih (fun cs h=>hs1 cs (by simp [h])),Nat.succ_mul,Nat.add_comm]
  have hml:l.length+us.length≤maxLen:=by simp only [maxLen]; omega
  obtain⟨v',w',hrun,hown,hgr,hblk⟩:=Z7a (P:=P) w B t ty e i z r.sz i.bytes ht hi hz hsz rfl hzs hpos v l.length cs0.flatten h2 ad us.length cp css.flatten hfl hc
    (by
      intro u hu
      obtain⟨cs,hcs,hu⟩:=List.mem_flatten.1 hu
      obtain⟨j,hj,hje⟩:=List.getElem_of_mem hcs
      have hjl:j < us.length:=by omega
      exact r.one (hr j cs us[j] (by rw [List.getElem?_eq_getElem hj,hje]) (List.getElem?_eq_getElem hjl)) u hu)
    hml (Nat.le_trans (Nat.mul_le_mul hroom hby) (by decide)) hB
  have hT : ∀ g,v.ownBlock=some g → ¬ T g:=h4
  have hinn:Inn w.heap.size (ownS v) T w T w' :=
    ⟨⟨hgr.os,hgr.tape,hgr.output,hgr.size,fun b hb' hn=>hgr.block b hb' (fun hh=>hn (.inr hh.symm))⟩,fun b hb' => ⟨hb',hgr.block b (hb b hb') (fun hh=>hT b hh.symm hb')⟩,fun _ _ h=>h,fun b hb' => Nat.lt_of_lt_of_le (hb b hb') hgr.size,hgr.size⟩
  have hT' : ∀ g,v'.ownBlock=some g → ¬ T g:=by
    intro g hg
    rcases hblk with hblk | hblk
    · exact hT g (hblk ▸ hg)
    · rw [hblk] at hg
      cases hg
      exact Q6d hb
  refine Q8l (w' := w') (v:=v') ?_ (k v' w' hinn ⟨cs0++css,by simp [h1,hlen],?_,?_,hT'⟩ ?_)
  · simp only [execOp,resolve,invoke,builtin,Sem.run_bind,Sem.run_pure,Result.andThen_ok,List.map_toArray,List.map_cons,List.map_nil,hx,hy,hrun]
  · rw [List.flatten_append,List.length_append]
    exact hown
  · intro j cs u hcs hu
    rcases Nat.lt_or_ge j l.length with hj | hj
    · rw [List.getElem?_append_left (by omega)] at hcs hu
      exact r.mono hinn.imm (h3 j cs u hcs hu)
    · rw [List.getElem?_append_right (by omega)] at hcs hu
      exact r.mono hinn.imm (hr (j - l.length) cs u (by rw [← h1]; exact hcs) hu)
  · intro b hb' hd g hg
    rcases hblk with hblk | hblk
    · exact hd g (hblk ▸ hg)
    · rw [hblk] at hg
      cases hg
      omega

end
end Go.Proofs.YtecakklofhfphaaGreatDoor
