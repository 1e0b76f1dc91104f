/- A package variable that holds a whole number, at the start of a call. It holds for every program. -/
import Derived.Test.YtfffghclkmbopaaGreatKArr
import Derived.Test.YtfffghclkmbopaaGreatKRow
import Derived.HandedShaped
set_option linter.unusedVariables false
namespace Go.Proofs.YtfffghclkmbopaaGreat
theorem gi_start {P:Program} {w:World} {g:Nat} {t:TypeId} {zero:Array Value} (h:w.ShapedOpen P) (hg:g < P.globals.size)
    (h0:((begin P (fun _ _=>0) default).world.heap[g]?).bind Obj.row? = some (zero,t)) (hz:zero.size=1)
    (hb:P.buildable t=true) (hc:P.cellTypes P.depth t=some [t]) (hu:P.underlying t=some (.int .i64)):Gi (allB w) w g:=by
  obtain⟨cs,hh,hs,hr⟩:=h.1 g zero t hg h0;obtain⟨ts,hts,_,hall⟩:=hr hb;rw [hc] at hts;cases hts;have h1:0 < cs.size:=by omega
  obtain⟨u,hu',hok⟩:=hall 0 cs[0] (by simp [h1]);have:u=t:=by simpa using hu'.symm
  subst this;have hcell:w.cell? ⟨g,0,none⟩=some cs[0]:=by simp [World.cell?,hh,h1]
  refine⟨(Array.getElem?_eq_some_iff.1 hh).1,?_⟩;rw [hcell];unfold Cell.ok at hok;rw [hu] at hok;cases hv:cs[0] <;> rw [hv] at hok <;> first | (simp at hok; done) | skip
  rename_i k n
  cases k <;> simp [IntKind.has] at hok
  exact⟨_,rfl⟩
end Go.Proofs.YtfffghclkmbopaaGreat
