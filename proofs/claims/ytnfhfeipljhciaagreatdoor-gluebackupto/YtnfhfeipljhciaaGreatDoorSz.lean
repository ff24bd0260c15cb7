/- Sizes of tokens, by what the row reads. -/
import Derived.Test.YtnfhfeipljhciaaGreatDoorIp
import Derived.Test.YtnfhfeipljhciaaGreatDoorLf
import Derived.Test.YtnfhfeipljhciaaGreatDoorNd
set_option linter.unusedSimpArgs false
set_option linter.unusedVariables false
namespace Go.Lv.VT
theorem zBv(x:zb):Qy (Qr x)=x.text.length+x.unit.length+5:=by
 unfold Qr
 simp only[Qy,bPV]
 omega
theorem zwf: ∀(l:List zb),l.length≤zmB (l.map Qr)∧ ∀t∈l,t.text.length+t.unit.length≤zmB (l.map Qr)
 |[]=>⟨Nat.zero_le _,fun t ht=>by cases ht⟩
 |t::l=>by
  obtain⟨h1,h2⟩:=zwf l
  rw[List.map_cons,zmB,zBv,List.length_cons]
  refine⟨by omega,fun u hu=> ?_⟩
  rcases List.mem_cons.1 hu with rfl|hu
  ·omega
  ·have:=h2 u hu;omega
theorem zAd{x:List zb}{n:Nat}(h:Qy [.sl (x.map Qr)]≤n):zlC x n∧x.length≤n:=by
 simp only[Qy,bPV]at h
 obtain⟨h1,h2⟩:=zwf x
 exact⟨fun t ht=>by have:=h2 t ht;omega,by omega⟩
end Go.Lv.VT
