/- Laws for the plain texts: loops that look for something; bytes. -/
import Derived.Test.YtcdeccnjlkkejaaGreatDoorLf
import Derived.Test.YtcdeccnjlkkejaaGreatDoorTx
set_option linter.unusedSimpArgs false
set_option linter.unusedVariables false
namespace Go.Lv.VT
abbrev big:Nat:=4194304
theorem Q7{i n:Nat}(h:i<n):decide ((i:Int)<(n:Int))=true:=Fa (by omega)
theorem Tx(n:Nat):decide ((n:Int)<(n:Int))=false:=Ua (by omega)
theorem Z6{i n:Nat}(h:i<n)(a:n<=big):w64 ((i:Int)+1)=((i+1:Nat):Int):=by rw[w64,qc (by omega) (by grind)];omega
theorem Qy{α:Type}(b:Bool)(v d:α):zt b (some v) d=some (bif b then v else d):=by cases b<;>rfl
theorem DN {α X R:Type} {step:Int->Option (LO Int X R)} {k:X->Option R} (l:List α) (q:α->Option R) (x:X)
  (hg: ∀(i:Nat) (h:i<l.length),step (i:Int)=some (match q l[i]with|some r=> .ret r|none=> .again ((i+1:Nat):Int)))
  (hf:step (l.length:Int)=some (.out x)):Zg step 0 k=match l.findSome? q with|some r=>some r|none=>k x:=by
 have key: ∀(m:List α) (i:Nat),l.drop i=m->i<=l.length-> ∃n,qE step n (i:Int)=some (match m.findSome? q with|some r=> .ret r|none=> .out x):=by
  intro m
  induction m with
  |nil=>
   intro i hd hi;have:i=l.length:=by have:=Yd.1 hd;omega
   subst this;exact⟨1,by simp only[qE,hf,List.findSome?_nil]⟩
  |cons v m ih=>
   intro i hd hi;have hlt:i<l.length:=by
    rcases Yc i l.length with h|h
    ·exact h
    ·grind
   have hv:l[i]=v:=by have:=ja hlt;rw[hd]at this;injection this with h1 _;exact h1.symm
   have hs:=hg i hlt;rw[hv]at hs;cases hq:q v with
   |some r=> rw[hq]at hs;exact⟨1,by simp only[qE,hs,List.findSome?_cons,hq]⟩
   |none=> rw[hq]at hs;obtain⟨n,hn⟩:=ih (i+1) (by rw[ja hlt]at hd;injection hd) (by omega);refine⟨n+1,?_⟩;simp only[qE,hs,List.findSome?_cons,hq];exact hn
 obtain⟨n,hn⟩:=key l 0 rfl (by omega);replace hn:qE step n 0=_:=hn;rw[Jj (Wh hn)];cases l.findSome? q<;>rfl
theorem KF{α R:Type}(p:α->Bool)(r:R): ∀(l:List α),l.findSome? (fun v=>bif p v then none else some r)=bif l.all p then none else some r
 |[]=>rfl
 |v::l=>by
  rw[List.findSome?_cons,Uc];cases p v with
  |false=>rfl
  |true=>exact KF p r l
set_option maxRecDepth 100000
end Go.Lv.VT
