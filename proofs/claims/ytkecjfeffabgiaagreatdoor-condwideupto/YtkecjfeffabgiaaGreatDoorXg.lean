/- What is written piece by piece is there: its tokens, and where each piece begins. -/
import Derived.Test.YtkecjfeffabgiaaGreatDoorXf
import Derived.Test.YtkecjfeffabgiaaGreatDoorXa
import Derived.Test.YtkecjfeffabgiaaGreatDoorTy
import Derived.Test.YtkecjfeffabgiaaGreatDoorXe
set_option linter.unusedSimpArgs false
set_option linter.unusedVariables false
namespace Go.Lv.VT
set_option maxRecDepth 100000
def NP(l:List zk):Prop:=(∀t∈l,Ju t=true/\t.text.length<=5000/\t.unit.length<=5000)/\ ∀k,k<l.length->okAt (l.drop k)=true
theorem wU {S X R:Type} {step:S->Option (LO S X R)} {k:X->Option R} (Inv:S->Prop) (μ:S->Nat) (Q:R->Prop)
  (h: ∀s,Inv s->(∃s',step s=some (.again s')/\Inv s'/\μ s'<μ s)\/(∃x y,step s=some (.out x)/\k x=some y/\Q y)\/(∃y,step s=some (.ret y)/\Q y)) {s:S} (hs:Inv s): ∃y,Zb step s k=some y/\Q y:=by
 have key: ∀(m:Nat) (s:S),μ s<m->Inv s-> ∃(r:LX X R) (y:R),qG step m s=some r/\r.go k=some y/\Q y:=by
  intro m
  induction m with
  |zero=>intro s h;omega
  |succ m ih=>
   intro s hm hs;simp only[qG];rcases h s hs with⟨s',h1,h2,h3⟩|⟨x,y,h1,h2,h3⟩|⟨y,h1,h2⟩
   ·rw[h1];exact ih s' (by omega) h2
   ·rw[h1];exact⟨_,y,rfl,h2,h3⟩
   ·rw[h1];exact⟨_,y,rfl,rfl,h2⟩
 obtain⟨r,y,h1,h2,h3⟩:=key (μ s+1) s (by omega) hs;exact⟨y,by rw[Ph (Fh h1)];exact h2,h3⟩
structure Sf (d:UInt8) (y:Str):Prop where
 f:fstB d=false
 l:letB d=false
 g:digB d=false
 s:Kl d=false
 a:(d==45)=false
 b:(d==46)=false
 c:(d==92)=false
 n:(d==10)=false
 e:(d==40)=false
 p:(d==37)=false
 m:d≠42
 o:[33,45,45].isPrefixOf (d::y)=false
 x:(d==101||d==69)=false
 k:d≠60/\d≠62
end Go.Lv.VT
