/- Sizes of tokens, by what the row reads. -/
import Derived.Test.YtnfhfeipljhciaaGreatDoorIp
import Derived.Test.YtnfhfeipljhciaaGreatDoorLf
import Derived.Test.YtnfhfeipljhciaaGreatDoorNd
set_option linter.unusedSimpArgs false
set_option linter.unusedVariables false
namespace Go.Lv.VT
theorem GK(x:zb):Qp (ZX x)=x.text.length+x.unit.length+5:=by unfold ZX;simp only[Qp,bPV];omega
theorem IL: ∀(l:List zb),l.length<=Bl (l.map ZX)/\ ∀t∈l,t.text.length+t.unit.length<=Bl (l.map ZX)
 |[]=>⟨Ac _,fun t ht=>by cases ht⟩
 |t::l=>by
  obtain⟨h1,h2⟩:=IL l;rw[Ab,Bl,GK,Ga];refine⟨by omega,fun u hu=> ?_⟩;rcases Yb.1 hu with rfl|hu
  ·omega
  ·have:=h2 u hu;omega
theorem zBf{x:List zb}{n:Nat}(h:Qp [.sl (x.map ZX)]<=n):ek x n/\x.length<=n:=by simp only[Qp,bPV]at h;obtain⟨h1,h2⟩:=IL x;exact⟨fun t ht=>by have:=h2 t ht;omega,by omega⟩
end Go.Lv.VT
