/- Which values may come in. -/
import Derived.Test.YtpodafkicdifmaaGreatDoorIp
import Derived.Test.YtpodafkicdifmaaGreatDoorLf
set_option linter.unusedSimpArgs false
set_option linter.unusedVariables false
namespace Go.Lv.VT
set_option maxRecDepth 100000
open Go.Proofs
def gd:List Nat:=[9]
theorem zNJ:Tryz.prog.underlying 9=some (.string):=by kernel_rfl
def kc(t:Nat):TypeDesc->Bool
 | .int k=>false
 | .bool=>Nat.beq t 0
 | .string=>memT t [9]
 | .slice e=>false
 | .struct _=>false
 |_=>false
theorem zNr:gd.all (fun t=>match Tryz.prog.underlying t with|some u=>kc t u|none=>true)=true:=by kernel_rfl
theorem kcs{t:Nat}{u:TypeDesc}(hg:t∈gd)(hu:Tryz.prog.underlying t=some u):kc t u=true:=by have:=Rb.1 zNr t hg;rw[hu]at this;exact this
theorem ipRd:IpRd Tryz.prog I (fun t=>t∈gd)where
 int:=fun t k hg hu n h1 h2=>by have hm:=kcs hg hu;cases hm
 bool:=fun t hg hu b=>by have hm:=kcs hg hu;obtain rfl:=Oa hm;simp[gd]at hg
 str:=fun t hg hu l=>by have hm:=kcs hg hu;obtain hm:=JX hm;simp only[Kb,Ye,or_false]at hm;rcases hm with rfl<;>exact⟨(l:Str),rfl⟩
 sl:=fun t e hg hu=>by have hm:=kcs hg hu;cases hm
 st:=fun t fs hg hu=>by have hm:=kcs hg hu;cases hm
 only:=fun t u hg hu=>by have hm:=kcs hg hu;cases u<;>first|cases hm;done|simp
end Go.Lv.VT
