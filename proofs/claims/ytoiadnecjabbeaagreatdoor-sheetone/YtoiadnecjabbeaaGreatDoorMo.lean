/- Laws for the plain texts: loops that look for something; bytes. -/
import Derived.Test.YtoiadnecjabbeaaGreatDoorLf
import Derived.Test.YtoiadnecjabbeaaGreatDoorTx
set_option linter.unusedSimpArgs false
set_option linter.unusedVariables false
namespace Go.Lv.VT
abbrev big:Nat:=4194304
theorem qa{i n:Nat}(h:i<n):decide ((i:Int)<(n:Int))=true:=Ha (by omega)
theorem ZU(n:Nat):decide ((n:Int)<(n:Int))=false:=Ta (by omega)
theorem ZI{i n:Nat}(h:i<n)(a:n<=big):w64 ((i:Int)+1)=((i+1:Nat):Int):=by rw[w64,Qf (by omega) (by grind)];omega
theorem ZJ{α:Type}(b:Bool)(v d:α):zK b (some v) d=some (bif b then v else d):=by cases b<;>rfl
theorem jS{i n:Nat}(h:i<n):(decide ((0:Int)<=(i:Int))&&decide ((i:Int)<(n:Int)))=true:=by
 grind
theorem bB {α X R:Type} {step:Int->Option (LO Int X R)} {k:X->Option R} (l:List α) (q:α->Option R) (x:X)
  (hg: ∀(i:Nat) (h:i<l.length),step (i:Int)=some (match q l[i]with|some r=> .ret r|none=> .again ((i+1:Nat):Int)))
  (hf:step (l.length:Int)=some (.out x)):Zp step 0 k=match l.findSome? q with|some r=>some r|none=>k x:=by
 have key: ∀(m:List α) (i:Nat),l.drop i=m->i<=l.length-> ∃n,qd step n (i:Int)=some (match m.findSome? q with|some r=> .ret r|none=> .out x):=by
  intro m
  induction m with
  |nil=>
   intro i hd hi;have:i=l.length:=by have:=Yc.1 hd;omega
   subst this;exact⟨1,by simp only[qd,hf,List.findSome?_nil]⟩
  |cons v m ih=>
   intro i hd hi;have hlt:i<l.length:=by
    rcases Wd i l.length with h|h
    ·exact h
    ·grind
   have hv:l[i]=v:=by have:=Cb hlt;rw[hd]at this;injection this with h1 _;exact h1.symm
   have hs:=hg i hlt;rw[hv]at hs;cases hq:q v with
   |some r=> rw[hq]at hs;exact⟨1,by simp only[qd,hs,List.findSome?_cons,hq]⟩
   |none=> rw[hq]at hs;obtain⟨n,hn⟩:=ih (i+1) (by rw[Cb hlt]at hd;injection hd) (by omega);refine⟨n+1,?_⟩;simp only[qd,hs,List.findSome?_cons,hq];exact hn
 obtain⟨n,hn⟩:=key l 0 rfl (by omega);replace hn:qd step n 0=_:=hn;rw[qY (xh hn)];cases l.findSome? q<;>rfl
theorem Mw{α R:Type}(p:α->Bool)(r:R): ∀(l:List α),l.findSome? (fun v=>bif p v then none else some r)=bif l.all p then none else some r
 |[]=>rfl
 |v::l=>by
  rw[List.findSome?_cons,Oe];cases p v with
  |false=>rfl
  |true=>exact Mw p r l
def idxS{α:Type}(p:α->Bool):List α->Int
 |[]=> -1
 |v::l=>bif p v then 0 else bif decide (idxS p l<0)then -1 else idxS p l+1
theorem Yo{α:Type}(p:α->Bool): ∀(l:List α),decide (idxS p l>=0)=l.any p
 |[]=>rfl
 |v::l=>by
  have a:=Yo p l;rw[List.any_cons,idxS]
  grind
theorem KF{α:Type}(p:α->Bool): ∀(l:List α), -1<=idxS p l/\idxS p l<l.length
 |[]=>by simp[idxS]
 |v::l=>by
  have:=KF p l;rw[idxS,Ea]
  grind
theorem sj {α:Type} {step:Int->Option (LO Int Unit Int)} (l:List α) (p:α->Bool) (hn:l.length<=big)
  (hg: ∀(i:Nat) (h:i<l.length),step (i:Int)=bif p l[i]then some (.ret (i:Int))else some (.again (w64 ((i:Int)+1))))
  (hf:step (l.length:Int)=some (.out ())):Zp step 0 (fun _=>some (-1))=some (idxS p l):=by
 have key: ∀(m:List α) (i:Nat),l.drop i=m->i<=l.length-> ∃n,qd step n (i:Int)=some (bif decide (idxS p m<0)then .out ()else .ret ((i:Int)+idxS p m)):=by
  intro m
  induction m with
  |nil=>
   intro i hd hi;have:i=l.length:=by have:=Yc.1 hd;omega
   subst this;exact⟨1,by simp only[qd,hf];rfl⟩
  |cons v m ih=>
   intro i hd hi;have hlt:i<l.length:=by
    rcases Wd i l.length with h|h
    ·exact h
    ·grind
   have hv:l[i]=v:=by have:=Cb hlt;rw[hd]at this;injection this with h1 _;exact h1.symm
   have hs:=hg i hlt;rw[hv]at hs;cases hq:p v with
   |true=> rw[hq]at hs;refine⟨1,?_⟩;simp only[qd,hs,Da,idxS,hq];simp
   |false=>
    rw[hq,Ca,ZI hlt hn]at hs;obtain⟨n,hn'⟩:=ih (i+1) (by rw[Cb hlt]at hd;injection hd) (by omega);refine⟨n+1,?_⟩;simp only[qd,hs,idxS,hq,Ca]
    grind
 obtain⟨n,hn'⟩:=key l 0 rfl (by omega);replace hn':qd step n 0=_:=hn';rw[qY (xh hn')];have hb:=KF p l;by_cases h0:idxS p l<0
 ·rw[Ha h0];show some (-1)=_;congr 1;omega
 ·rw[Ta h0];simp_all
end Go.Lv.VT


