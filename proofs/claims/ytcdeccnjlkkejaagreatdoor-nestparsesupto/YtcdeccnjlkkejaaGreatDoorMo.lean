/- Laws for the plain texts: loops that look for something; bytes. -/
import Derived.Test.YtcdeccnjlkkejaaGreatDoorLf
import Derived.Test.YtcdeccnjlkkejaaGreatDoorTx
set_option linter.unusedSimpArgs false
set_option linter.unusedVariables false
namespace Go.Lv.VT
abbrev big:Nat:=4194304
theorem Xi{i n:Nat}(h:i<n):decide ((i:Int)<(n:Int))=true:=Ha (by omega)
theorem Nj(n:Nat):decide ((n:Int)<(n:Int))=false:=Xa (by omega)
theorem qj{i n:Nat}(h:i<n)(hn:n<=big):w64 ((i:Int)+1)=((i+1:Nat):Int):=by rw[w64,qw (by omega) (by unfold big at hn;omega)];omega
theorem Q5{α:Type}(b:Bool)(v d:α):zw b (some v) d=some (bif b then v else d):=by cases b<;>rfl
theorem OU {α X R:Type} {step:Int->Option (LO Int X R)} {k:X->Option R} (l:List α) (q:α->Option R) (x:X)
  (hg: ∀(i:Nat) (h:i<l.length),step (i:Int)=some (match q l[i]with|some r=> .ret r|none=> .again ((i+1:Nat):Int)))
  (hf:step (l.length:Int)=some (.out x)):Zi step 0 k=match l.findSome? q with|some r=>some r|none=>k x:=by
 have key: ∀(m:List α) (i:Nat),l.drop i=m->i<=l.length-> ∃n,qU step n (i:Int)=some (match m.findSome? q with|some r=> .ret r|none=> .out x):=by
  intro m
  induction m with
  |nil=>
   intro i hd hi;have:i=l.length:=by have:=Jf.1 hd;omega
   subst this;exact⟨1,by simp only[qU,hf,List.findSome?_nil]⟩
  |cons v m ih=>
   intro i hd hi;have hlt:i<l.length:=by
    rcases Tc i l.length with h|h
    ·exact h
    ·rw[Be h]at hd;cases hd
   have hv:l[i]=v:=by have:=Rb hlt;rw[hd]at this;injection this with h1 _;exact h1.symm
   have hs:=hg i hlt;rw[hv]at hs;cases hq:q v with
   |some r=> rw[hq]at hs;exact⟨1,by simp only[qU,hs,List.findSome?_cons,hq]⟩
   |none=> rw[hq]at hs;obtain⟨n,hn⟩:=ih (i+1) (by rw[Rb hlt]at hd;injection hd) (by omega);refine⟨n+1,?_⟩;simp only[qU,hs,List.findSome?_cons,hq];exact hn
 obtain⟨n,hn⟩:=key l 0 rfl (by omega);replace hn:qU step n 0=_:=hn;rw[Gn (Sk hn)];cases l.findSome? q<;>rfl
theorem WJ{α R:Type}(p:α->Bool)(r:R): ∀(l:List α),l.findSome? (fun v=>bif p v then none else some r)=bif l.all p then none else some r
 |[]=>rfl
 |v::l=>by
  rw[List.findSome?_cons,Sd];cases p v with
  |false=>rfl
  |true=>exact WJ p r l
def idxS{α:Type}(p:α->Bool):List α->Int
 |[]=> -1
 |v::l=>bif p v then 0 else bif decide (idxS p l<0)then -1 else idxS p l+1
set_option maxRecDepth 100000
end Go.Lv.VT
