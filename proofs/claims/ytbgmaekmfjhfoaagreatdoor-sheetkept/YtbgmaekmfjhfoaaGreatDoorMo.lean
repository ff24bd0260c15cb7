/- Laws for the plain texts: loops that look for something; bytes. -/
import Derived.Test.YtbgmaekmfjhfoaaGreatDoorLf
import Derived.Test.YtbgmaekmfjhfoaaGreatDoorTx
set_option linter.unusedSimpArgs false
set_option linter.unusedVariables false
namespace Go.Lv.VT
abbrev big:Nat:=4194304
theorem ZY{i n:Nat}(h:i<n):decide ((i:Int)<(n:Int))=true:=Fa (by omega)
theorem ZM(n:Nat):decide ((n:Int)<(n:Int))=false:=Ta (by omega)
theorem Zw{i n:Nat}(h:i<n)(a:n<=big):w64 ((i:Int)+1)=((i+1:Nat):Int):=by rw[w64,Qb (by omega) (by grind)];omega
theorem ZF{α:Type}(b:Bool)(v d:α):zI b (some v) d=some (bif b then v else d):=by cases b<;>rfl
theorem PS{i n:Nat}(h:i<n):(decide ((0:Int)<=(i:Int))&&decide ((i:Int)<(n:Int)))=true:=by
 grind
theorem IA {α X R:Type} {step:Int->Option (LO Int X R)} {k:X->Option R} (l:List α) (q:α->Option R) (x:X)
  (hg: ∀(i:Nat) (h:i<l.length),step (i:Int)=some (match q l[i]with|some r=> .ret r|none=> .again ((i+1:Nat):Int)))
  (hf:step (l.length:Int)=some (.out x)):Zl step 0 k=match l.findSome? q with|some r=>some r|none=>k x:=by
 have key: ∀(m:List α) (i:Nat),l.drop i=m->i<=l.length-> ∃n,qa step n (i:Int)=some (match m.findSome? q with|some r=> .ret r|none=> .out x):=by
  intro m
  induction m with
  |nil=>
   intro i hd hi;have:i=l.length:=by have:=Xc.1 hd;omega
   subst this;exact⟨1,by simp only[qa,hf,List.findSome?_nil]⟩
  |cons v m ih=>
   intro i hd hi;have hlt:i<l.length:=by
    rcases Ud i l.length with h|h
    ·exact h
    ·grind
   have hv:l[i]=v:=by have:=Fb hlt;rw[hd]at this;injection this with h1 _;exact h1.symm
   have hs:=hg i hlt;rw[hv]at hs;cases hq:q v with
   |some r=> rw[hq]at hs;exact⟨1,by simp only[qa,hs,List.findSome?_cons,hq]⟩
   |none=> rw[hq]at hs;obtain⟨n,hn⟩:=ih (i+1) (by rw[Fb hlt]at hd;injection hd) (by omega);refine⟨n+1,?_⟩;simp only[qa,hs,List.findSome?_cons,hq];exact hn
 obtain⟨n,hn⟩:=key l 0 rfl (by omega);replace hn:qa step n 0=_:=hn;rw[qU (oh hn)];cases l.findSome? q<;>rfl
theorem Nv{α R:Type}(p:α->Bool)(r:R): ∀(l:List α),l.findSome? (fun v=>bif p v then none else some r)=bif l.all p then none else some r
 |[]=>rfl
 |v::l=>by
  rw[List.findSome?_cons,Ke];cases p v with
  |false=>rfl
  |true=>exact Nv p r l
def idxS{α:Type}(p:α->Bool):List α->Int
 |[]=> -1
 |v::l=>bif p v then 0 else bif decide (idxS p l<0)then -1 else idxS p l+1
theorem Vo{α:Type}(p:α->Bool): ∀(l:List α),decide (idxS p l>=0)=l.any p
 |[]=>rfl
 |v::l=>by
  have a:=Vo p l;rw[List.any_cons,idxS]
  grind
theorem rD{α:Type}(p:α->Bool): ∀(l:List α), -1<=idxS p l/\idxS p l<l.length
 |[]=>by simp[idxS]
 |v::l=>by
  have:=rD p l;rw[idxS,Da]
  grind
theorem Uj {α:Type} {step:Int->Option (LO Int Unit Int)} (l:List α) (p:α->Bool) (hn:l.length<=big)
  (hg: ∀(i:Nat) (h:i<l.length),step (i:Int)=bif p l[i]then some (.ret (i:Int))else some (.again (w64 ((i:Int)+1))))
  (hf:step (l.length:Int)=some (.out ())):Zl step 0 (fun _=>some (-1))=some (idxS p l):=by
 have key: ∀(m:List α) (i:Nat),l.drop i=m->i<=l.length-> ∃n,qa step n (i:Int)=some (bif decide (idxS p m<0)then .out ()else .ret ((i:Int)+idxS p m)):=by
  intro m
  induction m with
  |nil=>
   intro i hd hi;have:i=l.length:=by have:=Xc.1 hd;omega
   subst this;exact⟨1,by simp only[qa,hf];rfl⟩
  |cons v m ih=>
   intro i hd hi;have hlt:i<l.length:=by
    rcases Ud i l.length with h|h
    ·exact h
    ·grind
   have hv:l[i]=v:=by have:=Fb hlt;rw[hd]at this;injection this with h1 _;exact h1.symm
   have hs:=hg i hlt;rw[hv]at hs;cases hq:p v with
   |true=> rw[hq]at hs;refine⟨1,?_⟩;simp only[qa,hs,Ca,idxS,hq];simp
   |false=>
    rw[hq,Ba,Zw hlt hn]at hs;obtain⟨n,hn'⟩:=ih (i+1) (by rw[Fb hlt]at hd;injection hd) (by omega);refine⟨n+1,?_⟩;simp only[qa,hs,idxS,hq,Ba]
    grind
 obtain⟨n,hn'⟩:=key l 0 rfl (by omega);replace hn':qa step n 0=_:=hn';rw[qU (oh hn')];have hb:=rD p l;by_cases h0:idxS p l<0
 ·rw[Fa h0];show some (-1)=_;congr 1;omega
 ·rw[Ta h0];simp_all
end Go.Lv.VT


