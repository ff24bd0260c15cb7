/- Selectors: how many there are; the checks. -/
import Derived.Test.YtagibnnojbolnaaGreatDoorXb
import Derived.Test.YtagibnnojbolnaaGreatDoorXa
import Derived.Test.YtagibnnojbolnaaGreatDoorMo
import Derived.KernelRfl
set_option linter.unusedSimpArgs false
set_option linter.unusedVariables false
namespace Go.Lv.VT
theorem Wq {α R:Type} {step:Int×Int->Option (LO (Int×Int) Int R)} {k:Int->Option R} (l:List α) (f:α->Nat) (a0 M:Nat) (hb:a0+(l.map f).sum<=M)
  (hg: ∀(i a:Nat) (h:i<l.length),a+f l[i]<=M->step ((a:Int),(i:Int))=some (.again (((a+f l[i]:Nat):Int),((i+1:Nat):Int))))
  (hf: ∀a:Nat,step ((a:Int),(l.length:Int))=some (.out (a:Int))):zU step ((a0:Int),0) k=k ((a0+(l.map f).sum:Nat):Int):=by
 have key: ∀(m:List α) (i a:Nat),l.drop i=m->i<=l.length->a+(m.map f).sum<=M-> ∃n,qd step n ((a:Int),(i:Int))=some (.out ((a+(m.map f).sum:Nat):Int)):=by
  intro m
  induction m with
  |nil=>
   intro i a hd hi _;have:i=l.length:=by have:=Jd.1 hd;omega
   subst this;exact⟨1,by simp only[qd,hf];simp⟩
  |cons v m ih=>
   intro i a hd hi hM;have hlt:i<l.length:=by
    rcases Yd i l.length with h|h
    ·exact h
    ·rw[Fg h]at hd;cases hd
   have hv:l[i]=v:=by have:=Ab hlt;rw[hd]at this;injection this with h1 _;exact h1.symm
   rw[Jc,He]at hM ⊢;have hs:=hg i a hlt (by rw[hv];omega);rw[hv]at hs;obtain⟨n,hn⟩:=ih (i+1) (a+f v) (by rw[Ab hlt]at hd;injection hd) (by omega) (by omega);refine⟨n+1,?_⟩;simp only[qd,hs];rw[hn,xe]
 obtain⟨n,hn⟩:=key l 0 a0 rfl (by omega) hb;replace hn:qd step n ((a0:Int),0)=_:=hn;rw[qP (Ai hn)];rfl
mutual
/-- How many complex ones there are, in all. -/
def numL:List zm->Nat
 |[]=>0
 |⟨_,parts,_⟩::r=>1+numQ parts+numL r
def numQ:List zQ->Nat
 |[]=>0
 |⟨_,simples⟩::r=>numI simples+numQ r
def numI:List zJ->Nat
 |[]=>0
 |⟨_,_,_,_,_,_,_,list⟩::r=>numL list+numI r
end
theorem FW(l:List zJ):numI l=(l.map fun x=>numL x.list).sum:=by
 induction l with
 |nil=>rw[numI];rfl
 |cons x l ih=>obtain⟨⟩:=x;rw[numI,ih];rfl
theorem CW(l:List zQ):numQ l=(l.map fun x=>numI x.simples).sum:=by
 induction l with
 |nil=>rw[numQ];rfl
 |cons x l ih=>obtain⟨⟩:=x;rw[numQ,ih];rfl
theorem DW(l:List zm):numL l=l.length+(l.map fun x=>numQ x.parts).sum:=by
 induction l with
 |nil=>rw[numL];rfl
 |cons x l ih=>obtain⟨⟩:=x;rw[numL,ih,Jc,He,Ga];dsimp only;omega
mutual
theorem AC: ∀l:List zm,numL l<=zL zf l
 |[]=>by rw[numL];exact Va _
 |⟨a,parts,b⟩::r=>by rw[numL,Z6,Qp];have:=yV parts;have:=AC r;show 1+numQ parts+numL r<=3+zL zZ parts+b.length+_;omega
theorem yV: ∀l:List zQ,numQ l<=zL zZ l
 |[]=>by rw[numQ];exact Va _
 |⟨a,simples⟩::r=>by rw[numQ,Z6,qI];have:=EW simples;have:=yV r;show numI simples+numQ r<=2+a.length+zL zY simples+_;omega
theorem EW: ∀l:List zJ,numI l<=zL zY l
 |[]=>by rw[numI];exact Va _
 |⟨a,b,c,d,e,f,g,list⟩::r=>by rw[numI,Z6,Qq];have:=AC list;have:=EW r;show numL list+numI r<=9+b.length+d.length+zL zf list+_;omega
end
theorem WT{l:List zm}(h:zL zf l<=big):Qu l=some (numL l:Int):=by
 refine ZG (fun l=>zL zf l) (fun l=>zL zf l<=big) (fun l=>(numL l:Int)) (fun S l hl hS=> ?_) h;unfold mG;have hn:=AC l;have hlen:=ZF qH l;rw[DW]at hn ⊢;refine(Wq l (fun x=>numQ x.parts) l.length big (by omega) (fun i a hi ha=> ?_) (fun a=> ?_)).trans rfl
 ·have hm:=ZU (f:=zf) (Ha hi);have hz:=Qp l[i];have hlen2:=ZF Qx l[i].parts;simp only[zO hi,Ca,zM hi,za,Aa,zG hi (show l.length<=big by omega)];rw[CW]at ha ⊢;refine(Wq l[i].parts (fun x=>numI x.simples) a big ha (fun j b hj hb=> ?_) (fun a=> ?_)).trans rfl
  ·have hm2:=ZU (f:=zZ) (Ha hj);have hz2:=qI l[i].parts[j];have hlen3:=ZF Gm l[i].parts[j].simples;simp only[zO hj,Ca,zM hj,Aa,zG hj (show l[i].parts.length<=big by omega)];rw[FW]at hb ⊢;refine(Wq l[i].parts[j].simples (fun x=>numL x.list) b big hb (fun m c hm3 hc=> ?_) (fun a=> ?_)).trans rfl
   ·have hm4:=ZU (f:=zY) (Ha hm3);have hz3:=Qq l[i].parts[j].simples[m];simp only[zO hm3,Ca,zM hm3,Aa,zG hm3 (show l[i].parts[j].simples.length<=big by omega)];rw[hS _ (by show zL zf l[i].parts[j].simples[m].list<=big;omega) (by show zL zf l[i].parts[j].simples[m].list<zL zf l;omega)];simp only[Aa,Pt hc]
   ·simp only[zW,Ba]
  ·simp only[zW,Ba]
 ·simp only[zW,Ba]
theorem ztc{l:List zm}(h:zL zf l<=big):Rn l=some (numL l:Int):=by
 refine ZG (fun l=>zL zf l) (fun l=>zL zf l<=big) (fun l=>(numL l:Int)) (fun S l hl hS=> ?_) h;unfold IG;have hn:=AC l;have hlen:=ZF qH l;rw[DW]at hn ⊢;refine(Wq l (fun x=>numQ x.parts) l.length big (by omega) (fun i a hi ha=> ?_) (fun a=> ?_)).trans rfl
 ·have hm:=ZU (f:=zf) (Ha hi);have hz:=Qp l[i];have hlen2:=ZF Qx l[i].parts;simp only[zO hi,Ca,zM hi,za,Aa,zG hi (show l.length<=big by omega)];rw[CW]at ha ⊢;refine(Wq l[i].parts (fun x=>numI x.simples) a big ha (fun j b hj hb=> ?_) (fun a=> ?_)).trans rfl
  ·have hm2:=ZU (f:=zZ) (Ha hj);have hz2:=qI l[i].parts[j];have hlen3:=ZF Gm l[i].parts[j].simples;simp only[zO hj,Ca,zM hj,Aa,zG hj (show l[i].parts.length<=big by omega)];rw[FW]at hb ⊢;refine(Wq l[i].parts[j].simples (fun x=>numL x.list) b big hb (fun m c hm3 hc=> ?_) (fun a=> ?_)).trans rfl
   ·have hm4:=ZU (f:=zY) (Ha hm3);have hz3:=Qq l[i].parts[j].simples[m];simp only[zO hm3,Ca,zM hm3,Aa,zG hm3 (show l[i].parts[j].simples.length<=big by omega)];rw[hS _ (by show zL zf l[i].parts[j].simples[m].list<=big;omega) (by show zL zf l[i].parts[j].simples[m].list<zL zf l;omega)];simp only[Aa,Pt hc]
   ·simp only[zW,Ba]
  ·simp only[zW,Ba]
 ·simp only[zW,Ba]
def selS(l:List zm):Int:=bif l.isEmpty|| !(l.all fun c=>Ag c 0 false false)then 8 else bif decide (numL l<=64)then 0 else 4
theorem zqQ{l:List zm}(h:zL zf l<=big):BG l=some (selS l):=by
 have hlen:=ZF qH l;have e64:decide ((numL l:Int)>64)= !decide (numL l<=64):=Tg _ 64;have hc:qU l=some (!l.all fun c=>Ag c 0 false false):=by
  unfold qU LM;refine Dl (Li l (fun x=> !Ag x 0 false false) (by omega) (fun i hi=> ?_) ?_) ((Mk _ _).trans (Iq _ _))
  ·have hm:=ZU (f:=zf) (Ha hi);simp only[zO hi,Ca,zM hi,za,Aa,TL,xy];have:=iP (c:=l[i]) (d:=0) (h:=false) (b:=false) (by omega) (by omega);simp only[Int.natCast_zero]at this;rw[this];rfl
  ·simp only[zW,Ba]
 unfold BG selS;simp only[hc,WT h,zX,za,Aa,ZI,e64];cases l.isEmpty<;>cases l.all (fun c=>Ag c 0 false false)<;>cases decide (numL l<=64)<;>rfl
theorem zu7{l:List zm}(h:zL zf l<=big):iE l=some (selS l):=by
 have hlen:=ZF qH l;have e64:decide ((numL l:Int)>64)= !decide (numL l<=64):=Tg _ 64;have hc:nD l=some ((l.all fun c=>Ag c 0 false false)&& !l.isEmpty):=by
  unfold nD;refine(qf l (fun c=>bif Ag c 0 false false then none else some false) () (fun i hi=> ?_) ?_).trans ?_
  ·have hm:=ZU (f:=zf) (Ha hi);simp only[zO hi,Ca,zM hi,za,Aa,xy,zG hi (show l.length<=big by omega)];have:=zH2 (c:=l[i]) (d:=0) (h:=false) (b:=false) (by omega) (by omega);simp only[Int.natCast_zero]at this;rw[this];simp only[Aa];cases Ag l[i] 0 false false<;>rfl
  ·simp only[zW,Ba]
  ·rw[Bi,nk];cases l.all fun c=>Ag c 0 false false<;>rfl
 unfold iE selS;simp only[hc,ztc h,za,Aa,e64];cases l.isEmpty<;>cases l.all (fun c=>Ag c 0 false false)<;>cases decide (numL l<=64)<;>rfl
def szP:List (List zb)->Nat
 |[]=>0
 |l::r=>1+szL l+szP r
theorem tV{v:List zb}: ∀{l:List (List zb)},v∈l->szL v<=szP l
 |[],h=>by cases h
 |x::l,h=>by
  rw[szP];rcases Jb.1 h with rfl|h
  ·omega
  ·have:=tV h;omega
theorem uV: ∀(l:List (List zb)),l.length<=szP l
 |[]=>Xa _
 |v::r=>by rw[szP,Ga];have:=uV r;omega
theorem zFC{R:Type}(x:Option R):both x x=x:=by unfold both;rw[Sa rfl]
theorem zI7{l:List zb}(h:szL l<=big):VH l=some l:=by
 unfold VH;have hlen:=Bh l;unfold big at h;have hap:ZB 0 l.length 80=true:=qy (by omega);cases l with
 |nil=>simp only[hap,zFC,Zz,List.isEmpty_nil,Ca]
 |cons v r=>simp only[hap,Zz,List.isEmpty_cons,Ba]
theorem rO{l:List zb}(h:szL l<=big):Hl l=some l:=by
 refine ZG (fun l=>szL l) (fun l=>szL l<=big) (fun l=>l) (fun S l hl hS=> ?_) h;unfold VE;have hlen:=Bh l;simp only[za,zI7 hl,Aa];refine(Xq l (fun i (a:List zb)=>((i:Int),a)) (fun v a=>some (.again a)) (fun a=>some (.out a)) (fun i a=>a=l) (a:=l) rfl rfl (fun i a hi hI=> ?_) (fun a hI=> ?_) (r:= .out l) ?_)
 ·subst hI;have hsz:=Nj (Ha hi);have hv2:=mh a[i];refine⟨?_,fun a' ha=>by cases ha;rfl⟩;have h1:S a[i].list=some a[i].list:=hS a[i].list (by omega) (by omega);have h2:decide ((0:Int)<=(i:Int))=true:=Fa (by omega);have h3:a[i]? =some a[i]:=Ta hi;have h4:a.set i ⟨a[i].token,a[i].list⟩=a:=by
   have:(⟨a[i].token,a[i].list⟩:zb)=a[i]:=by cases a[i];rfl
   rw[this,List.set_getElem_self]
  simp only[zO hi,h2,Bool.and_self,Ca,Zz,Cb,h3,Aa,h1,h4,zG hi (by omega),Cc]
 ·subst hI;simp only[zW,Ba];rfl
 ·rw[Cm (fun a v=>a) (fun v a=>rfl)];congr 2;clear hl hS hlen h;generalize l=b at*;have: ∀(m b:List zb),m.foldl (fun a _=>a) b=b:=by
   intro m
   induction m with
   |nil=>intro b;rfl
   |cons v m ih=>intro b;exact ih b
  exact this _ _
theorem lH{l:List zb}{i:Nat}(h:i<l.length):Bz ((i:Int),l)=some (isSp l[i]):=by unfold Bz;simp only[za,zM h,Aa];rfl
theorem OJ{l:List zb}(h:szL l<=big):Xu l=some (if errS l=0 then(trimS l,0)else([],errS l)):=by
 unfold Xu;have hlen:=Bh l;simp only[za,uq h,Aa];by_cases h1:errS l=0
 ·rw[Sa h1];have hne:(errS l != 0)=false:=by simp[h1]
  simp only[hne,Ba];have hdl:=List.Sublist.length_le (Xb isSp (l:=l));have hdd:=cB isSp l;refine(qP (r:= .out ((l.length - (l.dropWhile isSp).length:Nat):Int)) (QA (fun s=> ∃k:Nat,s=(k:Int)/\k<=l.length/\(l.drop k).dropWhile isSp=l.dropWhile isSp) (fun s=>l.length - s.toNat) _ (fun s hs=> ?_) ⟨0,rfl,Va _,rfl⟩)).trans ?_
  ·obtain⟨k,rfl,hk,he⟩:=hs;by_cases hlt:k<l.length
   ·rw[Ab hlt,Ic]at he;have hw:=zG hlt (by unfold big at h ⊢;omega);cases hv:isSp l[k]with
    |true=> rw[Sa hv]at he;refine .inl ⟨((k+1:Nat):Int),?_,⟨k+1,rfl,hlt,he⟩,by omega⟩;simp only[zO hlt,z8,lH hlt,Aa,hv,Ca,hw]
    |false=>
     rw[Oa (by rw[hv];simp)]at he;refine .inr (.inl ⟨(k:Int),?_,?_⟩)
     ·simp only[zO hlt,z8,lH hlt,Aa,hv,Ca,Ba]
     ·rw[<-he];congr 1;simp;omega
   ·have hkk:k=l.length:=by omega
    subst hkk;rw[List.drop_length]at he;refine .inr (.inl ⟨(l.length:Int),?_,?_⟩)
    ·simp only[zW,ZO,Aa,Ba]
    ·rw[<-he];simp
  ·rw[znI];generalize hf:l.length - (l.dropWhile isSp).length=f at hdd;have hfl:f<=l.length:=by omega
   generalize l.dropWhile isSp=d at hdd;subst hdd;refine(qP (r:= .out ((f+(trimB (l.drop f)).length:Nat):Int)) (QA (fun s=> ∃m:Nat,s=(m:Int)/\f<=m/\m<=l.length/\trimB ((l.take m).drop f)=trimB (l.drop f)) (fun s=>s.toNat) _ (fun s hs=> ?_) ⟨l.length,rfl,hfl,Xa _,by rw[Vd]⟩)).trans ?_
   ·obtain⟨m,rfl,hm1,hm2,he⟩:=hs;by_cases hlt:f<m
    ·have hm:m - 1<l.length:=by omega
     have hsn:(l.take m).drop f=(l.take (m - 1)).drop f++[l[m - 1]]:=by
      have:l.take m=l.take (m - 1)++[l[m - 1]]:=by
       have:=Oc hm
       rwa [show m - 1+1=m by omega]at this
      rw[this,List.drop_append_of_le_length (by rw[Wd];omega)]
     rw[hsn,mq]at he;have h2:decide ((f:Int)<(m:Int))=true:=Fa (by omega);have hw:w64 ((m:Int) - 1)=((m - 1:Nat):Int):=by rw[w64,ZT (by omega) (by unfold big at h;omega)];omega
     cases hv:isSp l[m - 1]with
     |true=> rw[Sa hv]at he;refine .inl ⟨((m - 1:Nat):Int),?_,⟨m - 1,rfl,by omega,by omega,he⟩,by omega⟩;simp only[h2,z8,hw,lH hm,Aa,hv,Ca]
     |false=>
      rw[Oa (by rw[hv];simp)]at he;refine .inr (.inl ⟨(m:Int),?_,?_⟩)
      ·simp only[h2,z8,hw,lH hm,Aa,hv,Ca,Ba]
      ·rw[<-he];congr 1;simp;omega
    ·have hmm:m=f:=by omega
     subst hmm;have h2:decide ((m:Int)<(m:Int))=false:=Ia (by omega);refine .inr (.inl ⟨(m:Int),?_,?_⟩)
     ·simp only[h2,ZO,Aa,Ba]
     ·rw[Fg (by rw[Wd];omega),zIK]at he;rw[<-he];simp
   ·rw[znI];have htl:=List.Sublist.length_le (il (l.drop f));rw[jb]at htl;have hcut:List.drop f (List.take (f+(trimB (l.drop f)).length) l)=trimB (l.drop f):=by
     rw[List.drop_take];have: ∀d:List zb,d.take (trimB d).length=trimB d:=by intro d;unfold trimB;rw[List.length_reverse];have h3:=cB isSp d.reverse;have h4:=List.Sublist.length_le (Xb isSp (l:=d.reverse));rw[List.length_reverse]at h3 h4;rw[<-h3,List.drop_reverse,List.reverse_reverse];congr 1;simp
     have e:=this (l.drop f);rw[show f+(trimB (l.drop f)).length - f=(trimB (l.drop f)).length by omega];exact e
    have hneed:(decide ((0:Int)<=(f:Int))&&(decide ((f:Int)<=((f+(trimB (l.drop f)).length:Nat):Int))&&(decide (((f+(trimB (l.drop f)).length:Nat):Int)<=((f+(trimB (l.drop f)).length:Nat):Int))&&decide (((f+(trimB (l.drop f)).length:Nat):Int)<=(l.length:Int))))&&decide True)=true:=by simp only[Da,ja];refine⟨?_,trivial⟩;omega
    have hts:trimS l=trimB (l.drop f):=by unfold trimS;rw[<-cB isSp l,hf]
    simp only[hneed,Zz,Cb,hcut,rO (Bb (jk ((il _).trans (Pi _ _))) h),Aa,hts]
 ·rw[Oa h1];have hne:(errS l != 0)=true:=by simp[h1]
  simp only[hne,Ca]
def yf(k:Int)(a:List (List zb)×List zb)(v:zb):List (List zb)×List zb:=
 if v.token.kind==k then(a.1++[a.2],[])else(a.1,a.2++[v])
def Bg(k:Int)(l:List zb):List (List zb)×List zb:=l.foldl (yf k) ([],[])
def Kg(k:Int)(l:List zb):List (List zb):=(Bg k l).1++[(Bg k l).2]
theorem zEC{k:Int}{l:List zb}{i:Nat}(h:i<l.length):Bg k (l.take (i+1))=yf k (Bg k (l.take i)) l[i]:=by unfold Bg;rw[Oc h,List.foldl_append];rfl
theorem RP(a b:List (List zb)):szP (a++b)=szP a+szP b:=by
 induction a with
 |nil=>simp[szP]
 |cons x a ih=>simp only[Sb,szP,ih];omega
theorem DK(a b:List zb):szL (a++b)=szL a+szL b:=by
 induction a with
 |nil=>simp[szL]
 |cons x a ih=>simp only[Sb,szL,ih];omega
theorem WC(k:Int): ∀(l:List zb) (a:List (List zb)×List zb),szP (l.foldl (yf k) a).1+szL (l.foldl (yf k) a).2<=szP a.1+szL a.2+szL l/\(l.foldl (yf k) a).1.length<=a.1.length+l.length/\(l.foldl (yf k) a).2.length<=a.2.length+l.length
 |[],a=>by simp[szL]
 |v::l,a=>by
  rw[Td];obtain⟨h1,h2,h3⟩:=WC k l (yf k a v);have hv:=mh v;have:szP (yf k a v).1+szL (yf k a v).2<=szP a.1+szL a.2+szV v/\(yf k a v).1.length<=a.1.length+1/\(yf k a v).2.length<=a.2.length+1:=by
   unfold yf;split
   ·simp only[RP,szP,szL,Na,Ga,Eb];omega
   ·simp only[DK,szL,Na,Ga,Eb];omega
  rw[szL,Ga];omega
theorem zJe(k:Int)(l:List zb):szP (Kg k l)<=szL l+1:=by obtain⟨h1,_,_⟩:=WC k l ([],[]);unfold Kg Bg;rw[RP,szP,szP];have e1:szP ([]:List (List zb))=0:=rfl;have e2:szL ([]:List zb)=0:=rfl;simp only[e1,e2]at h1;omega
theorem uJ{l:List zb}{k:Int}(h:szL l<=big):xq (l,k)=some (if errS l=0 then(if k<1\/24<k then([],2)else(Kg k l,0))else([],errS l)):=by
 unfold xq;have hlen:=Bh l;simp only[za,uq h,Aa];by_cases h1:errS l=0
 ·have hne:(errS l != 0)=false:=by simp[h1]
  rw[Sa h1];simp only[hne,Ba,OX];by_cases h2:k<1\/24<k
  ·have:(decide (k<1)||decide (k>24))=true:=by simpa using h2
   rw[Sa h2,this];rfl
  ·have:(decide (k<1)||decide (k>24))=false:=by rw[Uf];exact⟨Ia (by omega),Ia (by omega)⟩
   rw[Oa h2,this];simp only[Ba];refine(qP (r:= .out (((l.length - (Bg k l).2.length:Nat):Int),(Bg k l).1)) (QA (fun s=> ∃i from_:Nat,s=(((from_:Int),(i:Int)),(Bg k (l.take i)).1)/\from_<=i/\i<=l.length/\(Bg k (l.take i)).2=(l.take i).drop from_) (fun s=>l.length - s.1.2.toNat) _ (fun s hs=> ?_) ⟨0,0,by simp[Bg],Xa _,Va _,by simp[Bg]⟩)).trans ?_
   ·obtain⟨i,fr,rfl,hfi,hil,he⟩:=hs;by_cases hi:i<l.length
    ·refine .inl ?_;have hw:=zG hi (by unfold big at h ⊢;omega);have hpt:=zEC (k:=k) hi;have htk:l.take (i+1)=l.take i++[l[i]]:=Oc hi;unfold yf at hpt;simp only[zO hi,Ca,zM hi,Aa];cases hv:(l[i].token.kind==k)with
     |true=>
      rw[Sa hv]at hpt;have hn:(decide ((0:Int)<=(fr:Int))&&(decide ((fr:Int)<=(i:Int))&&(decide ((i:Int)<=(i:Int))&&decide ((i:Int)<=(l.length:Int))))&&decide True)=true:=by simp only[Da,ja];refine⟨?_,trivial⟩;omega
      have hsz:szL (List.drop fr (List.take i l))<=big:=Bb (jk ((Pi _ _).trans (List.take_sublist _ _))) h;have hpl:=(WC k (l.take i) ([],[])).2.1;have hap:ZB (Bg k (l.take i)).1.length 1 24=true:=qy (by
       unfold Bg;have:=List.length_take_le i l;unfold big at h;simp only[Eb]at hpl;omega)
      refine⟨((((i+1:Nat):Int),((i+1:Nat):Int)),(Bg k (l.take (i+1))).1),?_,⟨i+1,i+1,rfl,Xa _,hi,?_⟩,?_⟩
      ·simp only[Ca,hn,Zz,Cb,rO hsz,Aa,hap,hw,zI,hpt,he]
      ·rw[hpt];simp
      ·simp only[Cb];omega
     |false=>
      rw[Oa (by rw[hv];simp)]at hpt;refine⟨(((fr:Int),((i+1:Nat):Int)),(Bg k (l.take (i+1))).1),?_,⟨i+1,fr,rfl,by omega,hi,?_⟩,?_⟩
      ·simp only[Ba,zI,hw,hpt]
      ·rw[hpt,htk,he,List.drop_append_of_le_length (by rw[Wd];omega)]
      ·simp only[Cb];omega
    ·have hil:i=l.length:=by omega
     subst hil;rw[Vd]at he ⊢;refine .inr (.inl ⟨((fr:Int),(Bg k l).1),by simp only[zW,Ba],?_⟩);rw[he,jb];congr 2;omega
   ·rw[znI]
    -- the last part is behind
    have key: ∀(m:List zb) (a:List (List zb)×List zb) (p:List zb),a.2<:+p->(m.foldl (yf k) a).2<:+p++m:=by
     intro m
     induction m with
     |nil=>intro a p h;simpa using h
     |cons v m ih=>
      intro a p h;rw[Td];have:(yf k a v).2<:+p++[v]:=by
       unfold yf;split
       ·exact List.nil_suffix
       ·obtain⟨q,hq⟩:=h;exact⟨q,by rw[<-hq,Ub]⟩
      have:=ih _ _ this
      rwa [Ub]at this
    have hsuf:=key l ([],[]) [] (Xf _);rw[Bc]at hsuf;have hdr:List.drop (l.length - (Bg k l).2.length) l=(Bg k l).2:=by unfold Bg;exact(List.suffix_iff_eq_drop.1 hsuf).symm
    have hsz:szL (Bg k l).2<=big:=by have:=jk hsuf.sublist;unfold Bg;omega
    have hle:(Bg k l).2.length<=l.length:=by unfold Bg;exact hsuf.length_le
    have hn:(decide ((0:Int)<=((l.length - (Bg k l).2.length:Nat):Int))&&decide (((l.length - (Bg k l).2.length:Nat):Int)<=(l.length:Int)))=true:=by simp only[Da,ja];omega
    have hpl:=(WC k l ([],[])).2.1;have hap:ZB (Bg k l).1.length 1 24=true:=qy (by
     unfold Bg;unfold big at h;simp only[Eb]at hpl;omega)
    simp only[hn,Zz,Cb,hdr,rO hsz,Aa,hap];rfl
 ·have h2:(errS l != 0)=true:=Xe.2 h1;rw[Oa h1];simp only[h2,Ca]
def zNa{A S X R:Type}(k:X->Option R)(st:Nat->A->S)(Q:R->Prop)(i:Nat):LO S X R->Prop
 | .again s=> ∃a',s=st (i+1) a'
 | .ret r=>Q r
 | .out x=> ∃r,k x=some r/\Q r
def Ends{S X R:Type}(k:X->Option R)(Q:R->Prop):LO S X R->Prop
 | .again _=>False
 | .ret r=>Q r
 | .out x=> ∃r,k x=some r/\Q r
theorem Co {A S X R:Type} {step:S->Option (LO S X R)} {k:X->Option R} (n:Nat) (st:Nat->A->S) (Q:R->Prop) {s0:S} {a0:A} (h0:s0=st 0 a0)
  (hg: ∀(i:Nat) (a:A),i<n-> ∃o,step (st i a)=some o/\zNa k st Q i o) (hf: ∀a,∃o,step (st n a)=some o/\Ends k Q o): ∃r,zU step s0 k=some r/\Q r:=by
 refine Lx n st (fun _ _=>True) Q h0 trivial (fun i a hi _=> ?_) (fun a _=> ?_)
 ·obtain⟨o,h1,h2⟩:=hg i a hi;cases o with
  |again s=>obtain⟨a',rfl⟩:=h2;exact .inl ⟨a',h1,trivial⟩
  |ret r=>exact .inr (.inl ⟨r,h1,h2⟩)
  |out x=>exact .inr (.inr ⟨x,h1,h2⟩)
 ·obtain⟨o,h1,h2⟩:=hf a;cases o with
  |again s=>exact h2.elim
  |ret r=>exact .inr ⟨r,h1,h2⟩
  |out x=>exact .inl ⟨x,h1,h2⟩
theorem NI{α:Type}{b:Bool}{A B:Option α}{P:α->Prop}(h1: ∃o,A=some o/\P o)(h2: ∃o,B=some o/\P o): ∃o,(bif b then A else B)=some o/\P o:=by
 cases b
 ·exact h2
 ·exact h1
theorem J7{l:List zb}{m:Int}(h:szL l<=big): ∃r,Kl (l,m)=some r:=by
 have: ∃r,Kl (l,m)=some r/\True:=by
  refine El zso (fun x=>szL x.1) (fun x=>szL x.1<=big) (fun _ _=>True) (fun S x hx hS=> ?_) (x:=(l,m)) h;obtain⟨l,m⟩:=x;have hx:szL l<=big:=hx;have hlen:=Bh l;unfold Nv;refine Co (A:=Int) l.length (fun i a=>(a,(i:Int))) _ (a0:=0) rfl (fun i a hi=> ?_) (fun a=> ?_)
  ·have hsz:=Nj (Ha hi);have hv:=mh l[i];cases ha:decide (a<=m)with
   |false=>simp only[zO hi,Ca,Ba,ha];exact⟨_,rfl,_,rfl,trivial⟩
   |true=> obtain⟨r,hr,_⟩:=hS (l[i].list,w64 (m - a)) (by show szL l[i].list<=big;omega) (by show szL l[i].list<szL l;omega);simp only[zO hi,Ca,ha,zM hi,za,Aa,hr,zG hi (show l.length<=big by omega)];exact⟨_,rfl,_,rfl⟩
  ·simp only[zW,Ba];exact⟨_,rfl,_,rfl,trivial⟩
 obtain⟨r,hr,_⟩:=this;exact⟨r,hr⟩
theorem NS{l:List Zu}(h:zL Zv l<=big): ∃r,nu l=some r:=by
 have hlen:=ZF Nk l;have: ∃r,nu l=some r/\True:=by
  unfold nu;cases decide ((l.length:Int)>40)with
  |true=>exact⟨_,rfl,trivial⟩
  |false=>
   simp only[Ba];refine Co (A:=Int) l.length (fun i a=>(a,(i:Int))) _ (a0:=0) rfl (fun i a hi=> ?_) (fun a=> ?_)
   ·have hm:=ZU (f:=Zv) (Ha hi);have hz:=qX l[i];have hv:=Lh l[i].value;obtain⟨r,hr⟩:=J7 (l:=l[i].value) (m:=300) (by omega);simp only[zO hi,Ca,zM hi,za,Aa,hr,zX,zG hi (show l.length<=big by omega)];have hd: ∀(g:Bool) (k:Int->Option (LO (Int×Int) Unit Bool)),((zF g (QC (bif g then l[i]else default).value) (default:Int)).bind k)=k (bif g then(Zc l[i].value:Int)else default):=by
     intro g k;cases g with
     |false=>rfl
     |true=>simp only[Ca,z8,UC (show szL l[i].value<=big by omega),Aa]
    rw[hd];exact NI ⟨_,rfl,trivial⟩ ⟨_,rfl,_,rfl⟩
   ·simp only[zW,Ba];exact⟨_,rfl,_,rfl,trivial⟩
 obtain⟨r,hr,_⟩:=this;exact⟨r,hr⟩
theorem H7{c:zu}(h:zq (zk c)<=big): ∃r,Ll c=some r:=by
 have: ∃r,Ll c=some r/\True:=by
  refine El zsr (fun c=>zq (zk c)) (fun c=>zq (zk c)<=big) (fun _ _=>True) (fun S c hc hS=> ?_) h;have hlen:=Qb c;have hd:=Gy c;obtain⟨r,hr⟩:=NS (l:=[c.decl]) (by rw[Z6,og];omega);unfold Av;simp only[hr,za,Aa];refine NI ⟨_,rfl,trivial⟩ ?_
  ·refine Co (A:=Unit) c.list.length (fun i _=>(i:Int)) _ (a0:=()) rfl (fun i a hi=> ?_) (fun a=> ?_)
   ·have hm:=qW (Ha hi);obtain⟨q,hq,_⟩:=hS c.list[i] (by omega) hm;simp only[zO hi,Ca,zM hi,Aa,Zm,hq,zG hi (show c.list.length<=big by omega)];cases q with
    |true=>exact⟨_,rfl,trivial⟩
    |false=>exact⟨_,rfl,(),rfl⟩
   ·simp only[zW,Ba];exact⟨_,rfl,_,rfl,trivial⟩
 obtain⟨r,hr,_⟩:=this;exact⟨r,hr⟩
theorem zva{c:zu}(h:zq (zk c)<=big): ∃r,SE c=some r:=by obtain⟨n,h1,_⟩:=MS (m:=100) h (by unfold big;omega);replace h1:QD (c,100)=some (n:Int):=h1;obtain⟨b,h2⟩:=H7 h;unfold SE;simp only[Zm,h1,h2,za,Aa,zX];exact⟨_,rfl⟩
theorem I7{l:List zm}{m:Int}(h:zL zf l<=big): ∃r,Jl (l,m)=some r:=by
 have: ∃r,Jl (l,m)=some r/\True:=by
  refine El zsp (fun x=>zL zf x.1) (fun x=>zL zf x.1<=big) (fun _ _=>True) (fun S x hx hS=> ?_) (x:=(l,m)) h;obtain⟨l,m⟩:=x;have hx:zL zf l<=big:=hx;have hlen:=ZF qH l;unfold Cv;refine Co (A:=Int) l.length (fun i a=>(a,(i:Int))) _ (a0:=0) rfl (fun i a hi=> ?_) (fun a=> ?_)
  ·have hm:=ZU (f:=zf) (Ha hi);have hz:=Qp l[i];have hlen2:=ZF Qx l[i].parts;cases ha:decide (a<=m)with
   |false=>simp only[zO hi,Ca,Ba,ha];exact⟨_,rfl,_,rfl,trivial⟩
   |true=>
    simp only[zO hi,Ca,ha,zM hi,za,Aa,zG hi (show l.length<=big by omega)];refine Co (A:=Int) l[i].parts.length (fun i a=>(a,(i:Int))) _ rfl (fun j b hj=> ?_) (fun b=> ?_)
    ·have hm2:=ZU (f:=zZ) (Ha hj);have hz2:=qI l[i].parts[j];have hlen3:=ZF Gm l[i].parts[j].simples;cases hb:decide (b<=m)with
     |false=>simp only[zO hj,Ca,Ba,hb];exact⟨_,rfl,_,rfl,_,rfl⟩
     |true=>
      simp only[zO hj,Ca,hb,zM hj,Aa,zG hj (show l[i].parts.length<=big by omega)];refine Co (A:=Int) l[i].parts[j].simples.length (fun i a=>(a,(i:Int))) _ rfl (fun n c hn=> ?_) (fun c=> ?_)
      ·have hm3:=ZU (f:=zY) (Ha hn);have hz3:=Qq l[i].parts[j].simples[n];cases hc:decide (c<=m)with
       |false=>simp only[zO hn,Ca,Ba,hc];exact⟨_,rfl,_,rfl,_,rfl⟩
       |true=> obtain⟨r,hr,_⟩:=hS (l[i].parts[j].simples[n].list,w64 (m - c)) (by show zL zf l[i].parts[j].simples[n].list<=big;omega) (by show zL zf l[i].parts[j].simples[n].list<zL zf l;omega);simp only[zO hn,Ca,hc,zM hn,Aa,hr,zG hn (show l[i].parts[j].simples.length<=big by omega)];exact⟨_,rfl,_,rfl⟩
      ·simp only[zW,Ba];exact⟨_,rfl,_,rfl,_,rfl⟩
    ·simp only[zW,Ba];exact⟨_,rfl,_,rfl,_,rfl⟩
  ·simp only[zW,Ba];exact⟨_,rfl,_,rfl,trivial⟩
 obtain⟨r,hr,_⟩:=this;exact⟨r,hr⟩
theorem zu9{l:List zm}(h:zL zf l<=big): ∃r,fE l=some r:=by obtain⟨r,hr⟩:=I7 (m:=600) h;unfold fE;rw[hr];exact⟨_,rfl⟩
theorem uA(l:List (List Str)):l.length<=zL (fun l:List Str=>[.sl (l.map fun y=>[.str y])]) l/\ ∀n∈l,n.length<=zL (fun l:List Str=>[.sl (l.map fun y=>[.str y])]) l/\ ∀s∈n,s.length<=zL (fun l:List Str=>[.sl (l.map fun y=>[.str y])]) l:=by
 have h1: ∀n:List Str,n.length<=zL (fun y:Str=>[.str y]) n:=ZF (fun y=>by simp[zq,bPV]);have h2: ∀n:List Str,zq [.sl (n.map fun y=>[.str y])]=1+zL (fun y:Str=>[.str y]) n:=uN;refine⟨ZF (fun v=>by rw[h2];omega) l,fun n hn=> ?_⟩;have hm:=ZU (f:=fun l:List Str=>[.sl (l.map fun y=>[.str y])]) hn;have h3:=h2 n;have h4:=h1 n;refine⟨by omega,fun s hs=> ?_⟩;have h5:=ZU (f:=fun y:Str=>[.str y]) hs;have h6:zq [PV.str s]=1+s.length\/zq [PV.str s]=s.length:=by simp only[zq,bPV];omega
 omega
theorem zqP{l:List zN}{m:Int}(h:zL zy l<=big): ∃r,qR (l,m)=some r:=by
 have: ∃r,qR (l,m)=some r/\True:=by
  refine El znU (fun x=>zL zy x.1) (fun x=>zL zy x.1<=big) (fun _ _=>True) (fun S x hx hS=> ?_) (x:=(l,m)) h;obtain⟨l,m⟩:=x;have hx:zL zy l<=big:=hx;have hlen:=ZF Rk l;unfold Wv;refine NI ⟨_,rfl,trivial⟩ ?_
  ·refine Co (A:=Unit) l.length (fun i _=>(i:Int)) _ (a0:=()) rfl (fun i a hi=> ?_) (fun a=> ?_)
   ·have hm:=ZU (f:=zy) (Ha hi);have hz:=Mi l[i];have hcp:=Wx l[i].cond;obtain⟨hn1,hn2⟩:=uA l[i].names;obtain⟨q1,h1⟩:=zu9 (l:=l[i].selectors) (by omega);obtain⟨q2,h2⟩:=NS (l:=l[i].decls) (by omega);obtain⟨q3,h3⟩:=zva (c:=l[i].cond) (by omega);obtain⟨q4,h4,_⟩:=hS (l[i].rules,w64 (m - 1)) (by show zL zy l[i].rules<=big;omega) (by show zL zy l[i].rules<zL zy l;omega);simp only[zO hi,Ca,zM hi,za,Aa,Zm,h1,h2,h3,h4,zX,zG hi (show l.length<=big by omega)];refine NI ⟨_,rfl,trivial⟩ ?_
    ·refine Co (A:=Unit) l[i].names.length (fun i _=>(i:Int)) _ (a0:=()) rfl (fun j a hj=> ?_) (fun a=> ?_)
     ·simp only[zO hj,Ca,zM hj,Aa,zG hj (show l[i].names.length<=big by omega)];cases decide ((l[i].names[j].length:Int)>20)with
      |true=>exact⟨_,rfl,trivial⟩
      |false=>exact⟨_,rfl,(),rfl⟩
     ·simp only[zW,Ba];exact⟨_,rfl,_,rfl,(),rfl⟩
   ·simp only[zW,Ba];exact⟨_,rfl,_,rfl,trivial⟩
 obtain⟨r,hr,_⟩:=this;exact⟨r,hr⟩
mutual
def numR:zN->Nat
 |⟨_,_,_,_,_,l⟩=>1+Jf l
def Jf:List zN->Nat
 |[]=>0
 |r::l=>numR r+Jf l
end
theorem Yw(r:zN):numR r=1+Jf r.rules:=by obtain⟨⟩:=r;rw[numR]
theorem TD(l:List zN):Jf l=(l.map numR).sum:=by
 induction l with
 |nil=>rw[Jf];rfl
 |cons c l ih=>rw[Jf,ih];rfl
theorem IY: ∀l:List zN,Jf l<=zL zy l:=by
 have key: ∀(n:Nat) (l:List zN),zL zy l<n->Jf l<=zL zy l:=by
  intro n
  induction n with
  |zero=>intro l h;omega
  |succ n ih=>
   intro l
   induction l with
   |nil=>intro _;rw[Jf];exact Va _
   |cons v l ihl=> intro h;rw[Z6]at h ⊢;rw[Jf,Yw];have hz:=Mi v;have h1:=ih v.rules (by omega);have h2:=ihl (by omega);omega
 exact fun l=>key _ l (Fe _)
theorem zHm(l:List zN):Jf l=l.length+(l.map fun r=>Jf r.rules).sum:=by
 induction l with
 |nil=>rw[Jf];rfl
 |cons r l ih=>rw[Jf,ih,Yw,Jc,He,Ga];omega
theorem vS{l:List zN}(h:zL zy l<=big):QV l=some (Jf l:Int):=by
 refine ZG (fun l=>zL zy l) (fun l=>zL zy l<=big) (fun l=>(Jf l:Int)) (fun S l hl hS=> ?_) h;unfold aG;have hn:=IY l;have hlen:=ZF Rk l;rw[zHm]at hn ⊢;refine(Wq l (fun r=>Jf r.rules) l.length big (by omega) (fun i a hi ha=> ?_) (fun a=> ?_)).trans rfl
 ·have hm:=ZU (f:=zy) (Ha hi);have hz:=Mi l[i];simp only[zO hi,Ca,zM hi,za,Aa,zG hi (show l.length<=big by omega),hS l[i].rules (show zL zy l[i].rules<=big by omega) (show zL zy l[i].rules<zL zy l by omega),Pt ha]
 ·simp only[zW,Ba]
theorem zvd{l:List zN}(h:zL zy l<=big): ∃r,Dr l=some r:=by obtain⟨q,hq⟩:=zqP (m:=30) h;unfold Dr;simp only[hq,vS h,za,Aa,zX];exact⟨_,rfl⟩
set_option maxRecDepth 100000
inductive Cuts (k:Int):List zb->List (List zb)->Prop
 |one (p:List zb) (h: ∀x∈p,(x.token.kind==k)=false):Cuts k p [p]
 |more (p:List zb) (s:zb) (v:List zb) (ps:List (List zb)) (h: ∀x∈p,(x.token.kind==k)=false) (hs:(s.token.kind==k)=true) (hc:Cuts k v ps):Cuts k (p++s::v) (p::ps)
theorem YO(k:Int): ∀(l:List zb) (d:List (List zb)) (c:List zb),(∀x∈c,(x.token.kind==k)=false)-> ∃qs,(l.foldl (yf k) (d,c)).1++[(l.foldl (yf k) (d,c)).2]=d++qs/\Cuts k (c++l) qs
 |[],d,c,h=>⟨[c],rfl,by rw[Yb];exact .one c h⟩
 |v::l,d,c,h=>by
  rw[Td];cases hv:v.token.kind==k with
  |true=>
   obtain⟨qs,h1,h2⟩:=YO k l (d++[c]) [] (fun x hx=>by cases hx);refine⟨c::qs,?_, .more c v l qs h hv h2⟩;rw[show yf k (d,c) v=(d++[c],[]) by unfold yf;rw[Sa hv],h1,Ub];rfl
  |false=>
   obtain⟨qs,h1,h2⟩:=YO k l d (c++[v]) (fun x hx=>by
    rcases Rc.1 hx with hx|hx
    ·exact h x hx
    ·rw[Tc.1 hx];exact hv)
   refine⟨qs,?_,by rw[Ub]at h2;exact h2⟩;rw[show yf k (d,c) v=(d,c++[v]) by unfold yf;rw[Oa (by rw[hv];decide)],h1]
theorem IX(k:Int)(l:List zb):Cuts k l (Kg k l):=by obtain⟨qs,h1,h2⟩:=YO k l [] [] (fun x hx=>by cases hx);have:Kg k l=qs:=h1;rw[this];exact h2
theorem pX{k:Int}{v:List zb}{ps:List (List zb)}(h:Cuts k v ps):0<ps.length:=by cases h<;>simp
theorem SQ(d:List zb): ∃r,d=trimB d++r/\(∀x∈r,isSp x=true)/\(trimB d=[]\/ ∃t v,trimB d=t++[v]/\isSp v=false):=by
 induction hn:d.length generalizing d with
 |zero=>
  obtain rfl:=List.length_eq_zero_iff.1 hn;exact⟨[],rfl,fun x hx=>(by cases hx), .inl rfl⟩
 |succ n ih=>
  rcases vo d with rfl|⟨t,v,rfl⟩
  ·cases hn
  ·rw[mq];cases hv:isSp v with
   |true=>
    rw[Sa rfl];obtain⟨r,h1,h2,h3⟩:=ih t (by rw[Na]at hn;simpa using hn);refine⟨r++[v],by rw[<-Ub,<-h1],fun x hx=> ?_,h3⟩;rcases Rc.1 hx with hx|hx
    ·exact h2 x hx
    ·rw[Tc.1 hx];exact hv
   |false=> rw[Oa (by decide)];exact⟨[],(Yb _).symm,fun x hx=>(by cases hx), .inr ⟨t,v,rfl,hv⟩⟩
theorem wJ: ∀(v:List zb),∃a,v=a++v.dropWhile isSp/\(∀x∈a,isSp x=true)/\ ∀x b,v.dropWhile isSp=x::b->isSp x=false
 |[]=>⟨[],rfl,fun x hx=>(by cases hx),fun x b h=>(by cases h)⟩
 |y::v=>by
  obtain⟨a,h1,h2,h3⟩:=wJ v;cases hy:isSp y with
  |true=>
   rw[List.dropWhile_cons_of_pos hy];refine⟨y::a,by rw[Sb,<-h1],fun x hx=> ?_,h3⟩;rcases Jb.1 hx with rfl|hx
   ·exact hy
   ·exact h2 x hx
  |false=> rw[List.dropWhile_cons_of_neg (by rw[hy];decide)];exact⟨[],rfl,fun x hx=>(by cases hx),fun x b h=>(by cases h;exact hy)⟩
theorem dJ{x:zb}: ∀{l:List zb},x∈l->Jh x<=Zc l
 |[],h=>by cases h
 |y::l,h=>by
  rw[Zc];rcases Jb.1 h with rfl|h
  ·omega
  ·have:=dJ h;omega
theorem Q3{a b:List zb}(h:a.Sublist b):Zc a<=Zc b:=by
 induction h with
 |slnil=>exact Xa _
 |cons v _ ih=>rw[Zc];omega
 |cons_cons v _ ih=>rw[Zc,Zc];omega
theorem CK(v:List zb):(trimS v).Sublist v:=(il _).trans (Xb _)
def Yi(l:List zb):Prop:= ∀t v,l=t++[v]->isSp v=false
def Lj(l:List zb):Prop:= ∀a t,l=a::t->isSp a=false
theorem Yi.suf{a b:List zb}(h:Yi (a++b)):Yi b:=fun t v e=>h (a++t) v (by rw[e,Ub])
theorem Yi.id{l:List zb}(h:Yi l):trimB l=l:=by
 rcases vo l with rfl|⟨t,v,rfl⟩
 ·rfl
 ·rw[mq,h t v rfl];rfl
theorem mY(l:List zb):Yi (trimB l):=by
 obtain⟨r,_,_,h|⟨t,v,h,hv⟩⟩:=SQ l
 ·intro t v e;rw[h]at e;simp at e
 ·intro t' v' e;rw[h]at e;have:=List.append_inj_right' e rfl;injection this with e1;rw[<-e1];exact hv
theorem Lj.pre{a b:List zb}(h:Lj (a++b)):Lj a:=fun x t e=>h x (t++b) (by rw[e];rfl)
theorem Lj.id{l:List zb}(h:Lj l):l.dropWhile isSp=l:=by
 cases l with
 |nil=>rfl
 |cons a t=>rw[Ic,h a t rfl];rfl
theorem zLZ(l:List zb):Lj (l.dropWhile isSp):=by obtain⟨a,_,_,h⟩:=wJ l;exact fun x b e=>h x b e
theorem GV(l:List zb): ∃a,l=a++l.dropWhile isSp:=by obtain⟨a,h,_⟩:=wJ l;exact⟨a,h⟩
theorem JZ(l:List zb): ∃r,l=trimB l++r:=by obtain⟨r,h,_⟩:=SQ l;exact⟨r,h⟩
theorem zKw{l:List zb}(h1:Lj l)(h2:Yi l):trimS l=l:=by unfold trimS;rw[h1.id,h2.id]
theorem left_eq{l:List zb}:Tu l=some (l.dropWhile isSp):=by
 unfold Tu QH;refine(qP (r:= .out (l.dropWhile isSp)) (QA (fun s=>s.dropWhile isSp=l.dropWhile isSp) (fun s=>s.length) _ (fun s hs=> ?_) rfl)).trans ?_
 ·cases s with
  |nil=>exact .inr (.inl ⟨[],by simp,by rw[<-hs];rfl⟩)
  |cons v t=>
   have h1:decide (((v::t).length:Int)>0)=true:=by rw[Ht];simp
   have h2:geti (v::t) 0=some v:=rfl;have h3:decide ((1:Int)<=((v::t).length:Int))=true:=by simp;omega
   rw[Ic]at hs;cases hv:isSp v with
   |true=> rw[hv]at hs;unfold isSp at hv;refine .inl ⟨t,?_,by simpa using hs,by simp⟩;simp only[h1,h2,h3,z8,za,Aa,hv,Ca,Zz];rfl
   |false=> rw[hv]at hs;unfold isSp at hv;refine .inr (.inl ⟨v::t,?_,by rw[<-hs];rfl⟩);simp only[h1,h2,z8,za,Aa,hv,Ca,Ba]
 ·rw[znI]
theorem right_eq{d:List zb}(hd:szL d<=big):mo d=some (trimB d):=by
 unfold mo QH;refine(qP (r:= .out (trimB d)) (QA (fun s=>trimB s=trimB d/\szL s<=big) (fun s=>s.length) _ (fun s hs=> ?_) ⟨rfl,hd⟩)).trans ?_
 ·rcases vo s with rfl|⟨t,v,rfl⟩
  ·exact .inr (.inl ⟨[],by simp,by rw[<-hs.1];rfl⟩)
  ·have hlen:=Bh (t++[v]);have hl2:(t++[v]).length=t.length+1:=by simp
   have hb:=hs.2;unfold big at hb;have h1:decide (((t++[v]).length:Int)>0)=true:=by rw[Ht];simp
   have h4:w64 (((t++[v]).length:Int) - 1)=(t.length:Int):=by rw[w64,ZT (by omega) (by omega)];omega
   have h2:geti (t++[v]) (t.length:Int)=some v:=by rw[zM (by omega)];simp
   have h3:(decide ((0:Int)<=(t.length:Int))&&decide ((t.length:Int)<=((t++[v]).length:Int)))=true:=by simp;omega
   have hs1:=hs.1;rw[mq]at hs1;cases hv:isSp v with
   |true=> rw[Sa hv]at hs1;unfold isSp at hv;refine .inl ⟨t,?_,⟨hs1,Bb (jk (Af t [v])) hs.2⟩,by simp⟩;simp only[h1,h4,h2,h3,z8,za,Aa,hv,Ca,Zz,Cb];simp
   |false=> rw[Oa (by rw[hv];simp)]at hs1;unfold isSp at hv;refine .inr (.inl ⟨t++[v],?_,by rw[<-hs1]⟩);simp only[h1,h4,h2,z8,za,Aa,hv,Ca,Ba]
 ·rw[znI]
def jv(v:zb):Bool:=v.token.kind==9&&v.token.text==[33]
theorem zLn(v:zb):jq v=some (jv v):=by unfold jq QH jv;simp only[za,Aa];cases v.token.kind==9<;>rfl
def impW:Str:=[105,109,112,111,114,116,97,110,116]
def endV(l:List zb):Option (List zb×zb):=match l.reverse with
 |[]=>none
 |v::t=>some (t.reverse,v)
theorem pJ(t:List zb)(v:zb):endV (t++[v])=some (t,v):=by unfold endV;rw[List.reverse_append];simp
def Eh(v:List zb):List zb×Bool:=match endV v with
 |none=>(v,false)
 |some (t,z)=>bif !t.isEmpty&&(z.token.kind==1&&lowS z.token.text==impW)then
   (match endV (trimB t)with
   |none=>(v,false)
   |some (u,b)=>bif jv b then(trimB u,true)else(v,false))
  else(v,false)
theorem wW{t:List zb}{v:zb}(h:szL (t++[v])<=big):w64 (((t++[v]).length:Int) - 1)=(t.length:Int):=by
 have hlen:=Bh (t++[v]);have hl2:(t++[v]).length=t.length+1:=by simp
 unfold big at h;rw[w64,ZT (by omega) (by omega)];omega
theorem aW(t:List zb)(v:zb):geti (t++[v]) (t.length:Int)=some v:=by rw[zM (by simp)];simp
theorem JW(t:List zb)(v:zb):(decide ((0:Int)<=(t.length:Int))&&decide ((t.length:Int)<=((t++[v]).length:Int)))=true:=by simp;omega
theorem rV(t:List zb)(v:zb):List.take t.length (t++[v])=t:=by simp
theorem zMe:lowS [105,109,112,111,114,116,97,110,116]=impW:=by decide+kernel
theorem sV{t:List zb}{v:zb}(h:szL (t++[v])<=big):szL t<=big/\v.token.text.length<=big:=by rw[DK,szL,mh]at h;omega
theorem EY(t:List zb):decide ((t.length:Int)>0)= !t.isEmpty:=by
 cases t with
 |nil=>rfl
 |cons a t=>exact Fa (by simp only[Ga];omega)
abbrev MK:=LX (List zb×(Str×Bool)×(Str×Bool)) (Zu×Bool)
theorem zG5{v:List zb}{nm:Str}(hv:szL v<=big):(
  za (zF (decide (w64 ((v.length:Int) - 1)>0)) (geti v (w64 ((v.length:Int) - 1))) (default:zb)) fun y13=>
  za (zF (decide (w64 ((v.length:Int) - 1)>0)) (QH ((⟨y13.token,y13.list⟩:zb),1)) (default:Bool)) fun y14=>
  za (zF (bif decide (w64 ((v.length:Int) - 1)>0)then y14 else false) (geti v (w64 ((v.length:Int) - 1))) (default:zb)) fun y15=>
  za (zF (bif decide (w64 ((v.length:Int) - 1)>0)then y14 else false) (QI (y15.token.text,[105,109,112,111,114,116,97,110,116])) (default:Bool)) fun y16=>
  bif bif bif decide (w64 ((v.length:Int) - 1)>0)then y14 else false then y16 else false then
   need (decide (0<=w64 ((v.length:Int) - 1))&&decide (w64 ((v.length:Int) - 1)<=(v.length:Int)))<|
   za (mo (List.take (w64 ((v.length:Int) - 1)).toNat v)) fun y17=>
   za (zF (decide ((y17.length:Int)>0)) (geti y17 (w64 ((y17.length:Int) - 1))) (default:zb)) fun y18=>
   za (zF (decide ((y17.length:Int)>0)) (jq (⟨y18.token,y18.list⟩:zb)) (default:Bool)) fun y19=>
   bif bif decide ((y17.length:Int)>0)then y19 else false then
    need (decide (0<=w64 ((y17.length:Int) - 1))&&decide (w64 ((y17.length:Int) - 1)<=(y17.length:Int)))<|
    za (mo (List.take (w64 ((y17.length:Int) - 1)).toNat y17)) fun y20=>
    some (LX.out (y20,(([]:Str),false),(nm,true)))
   else
    some (LX.out (v,(([]:Str),false),(nm,false)))
  else
   some (LX.out (v,(([]:Str),false),(nm,false))))=(some (LX.out ((Eh v).1,(([]:Str),false),(nm,(Eh v).2))):Option MK):=by
 rcases vo v with rfl|⟨t,z,rfl⟩
 ·rfl
 ·obtain⟨ht,hz⟩:=sV hv;unfold Eh;rw[pJ];simp only[wW hv,EY];cases he:t.isEmpty with
  |true=>simp only[Ya,ZO,za,Aa,Ba,Ac]
  |false=>
   simp only[Ua,z8,aW,QH,za,Aa,Ca,aa];cases hk:z.token.kind==1 with
   |false=>simp only[ZO,Aa,Ba,Ac]
   |true=>
    simp only[z8,Aa,Yo hz (show([105,109,112,111,114,116,97,110,116]:Str).length<=big by decide),zMe,Ca,aa];cases ha:lowS z.token.text==impW with
    |false=>simp only[Ba]
    |true=>
     simp only[Ca,JW,Zz,Cb,rV,right_eq ht,Aa,EY];have hw:szL (trimB t)<=big:=Bb (jk (il t)) ht;obtain⟨w,hwd⟩: ∃w,trimB t=w:=⟨_,rfl⟩;rw[hwd]at hw;simp only[hwd];rcases vo w with rfl|⟨u,b,rfl⟩
     ·rfl
     ·have hne:(u++[b]).isEmpty=false:=by cases u<;>rfl
      rw[pJ];simp only[hne,Ua,z8,wW hw,aW,Aa,Su,zLn,Ca];cases hb:jv b with
      |false=>simp only[Ba]
      |true=>simp only[Ca,JW,Zz,Cb,rV,right_eq (sV hw).1,Aa]
def nmD(s:Str):Str:=bif List.isPrefixOf [45,45] s then s else lowS s
def noD:Zu×Bool:=(⟨[],[],false⟩,false)
def oneS(x:List zb):Zu×Bool:=match trimS x with
 |[]=>noD
 |n::r=>bif n.token.kind==1 then
   (match r.dropWhile isSp with
   |[]=>noD
   |c::q=>bif c.token.kind==16 then
     (bif Lf ⟨nmD n.token.text,(Eh (q.dropWhile isSp)).1,(Eh (q.dropWhile isSp)).2⟩then(⟨nmD n.token.text,(Eh (q.dropWhile isSp)).1,(Eh (q.dropWhile isSp)).2⟩,true)else noD)
    else noD)
  else noD
theorem dD{v:List zb}{t:List zb}{z:zb}(h:endV v=some (t,z)):v=t++[z]:=by
 rcases vo v with rfl|⟨t',z',rfl⟩
 ·cases h
 ·rw[pJ]at h;cases h;rfl
theorem zMj{v:List zb}(h1:Lj v)(h2:Yi v):Lj (Eh v).1/\Yi (Eh v).1/\(Eh v).1.Sublist v:=by
 unfold Eh;split
 ·exact⟨h1,h2,Ce _⟩
 ·rename_i t z he;have hv:=dD he;cases !t.isEmpty&&(z.token.kind==1&&lowS z.token.text==impW)with
  |false=>exact⟨h1,h2,Ce _⟩
  |true=>
   rw[Ca];split
   ·exact⟨h1,h2,Ce _⟩
   ·rename_i u b hb;have hw:=dD hb;cases jv b with
    |false=>exact⟨h1,h2,Ce _⟩
    |true=>
     rw[Ca];have hht:Lj t:=by rw[hv]at h1;exact h1.pre
     have hhw:Lj (trimB t):=by obtain⟨r,hr⟩:=JZ t;rw[hr]at hht;exact hht.pre
     have hhu:Lj u:=by rw[hw]at hhw;exact hhw.pre
     refine⟨?_,mY u,?_⟩
     ·obtain⟨r,hr⟩:=JZ u;rw[hr]at hhu;exact hhu.pre
     ·refine(il u).trans ((Af u [b]).trans ?_);rw[<-hw];refine(il t).trans ?_;rw[hv];exact Af t [z]
theorem zMf(s:Str):(lowS s).length=s.length:=by unfold lowS;simp
theorem zNU(s:Str):(nmD s).length=s.length:=by
 unfold nmD;cases List.isPrefixOf [45,45] s
 ·exact zMf s
 ·rfl
theorem SY(n:zb)(r:List zb):(((n::r).length:Int)==0)=false:=Ea.2 (by simp only[Ga];omega)
theorem YV(n:zb)(r:List zb):decide ((1:Int)<=((n::r).length:Int))=true:=Fa (by simp only[Ga];omega)
theorem gX(n:zb)(r:List zb):geti (n::r) 0=some n:=rfl
theorem zFm{x:List zb}(h:szL x<=big){n:zb}{r:List zb}(hy:trimS x=n::r):n.token.text.length<=big/\szL r<=big/\Yi r/\
  ∀{c:zb} {q:List zb},r.dropWhile isSp=c::q->szL (q.dropWhile isSp)<=big/\Lj (q.dropWhile isSp)/\Yi (q.dropWhile isSp):=by
 have hsz:=zKx x;have he:Yi (trimS x):=mY _;rw[hy]at hsz he;rw[szL,mh]at hsz;have her:Yi r:=he.suf (a:=[n]);refine⟨by omega,by omega,her,fun {c q} hq=> ?_⟩;obtain⟨a,ha⟩:=GV r;rw[hq]at ha;obtain⟨b,hb⟩:=GV q;refine⟨?_,zLZ q,?_⟩
 ·have h1:=jk (Xb isSp (l:=q));rw[ha,DK,szL]at hsz;omega
 ·rw[ha,hb]at her;exact Yi.suf (a:=a++c::b) (by rw[Ub];exact her)
theorem fQ{x:List zb}(h:szL x<=big):Ex x=some (oneS x):=by
 have hdw:szL (x.dropWhile isSp)<=big:=Bb (jk (Xb _)) h;unfold Ex oneS;simp only[left_eq,right_eq hdw,za,Aa,show trimB (x.dropWhile isSp)=trimS x from rfl];cases hy:trimS x with
 |nil=>rfl
 |cons n r=>
  obtain⟨hn,hr,_,hp⟩:=zFm h hy;simp only[SY,Ua,z8,gX,Aa,QH,Ba];cases hk:n.token.kind==1 with
  |false=>simp only[Ua,Ca,Ba];rfl
  |true=>
   simp only[Ya,Ba,Ca];have hj:((strings_HasPrefix (n.token.text,[45,45])).bind fun y6=>bif !y6 then(ZP n.token.text).bind fun y7=>some (LX.out (n::r,(([]:Str),false),(y7,false)))else some (LX.out (n::r,([],false),(n.token.text,false))))=(some (LX.out (n::r,([],false),(nmD n.token.text,false))):Option MK):=by rw[Bp,Aa,pq hn];unfold nmD;cases List.isPrefixOf [45,45] n.token.text<;>rfl
   rw[hj,zI];simp only[YV,Zz,show List.drop 1 (n::r)=r from rfl];cases hq:r.dropWhile isSp with
   |nil=>rfl
   |cons c q=>
    obtain⟨hv,hh,he⟩:=hp hq;simp only[SY,Ua,z8,gX,Aa,Ba];cases hc:c.token.kind==16 with
    |false=>simp only[Ua,Ca,Ba];rfl
    |true=>
     simp only[Ya,Ba,Ca,YV,Zz,show List.drop 1 (c::q)=q from rfl];obtain⟨v,hvd⟩: ∃v,q.dropWhile isSp=v:=⟨_,rfl⟩;rw[hvd]at hv hh he;simp only[hvd];have hm:=zG5 (nm:=nmD n.token.text) hv;simp only[za,QH]at hm;rw[hm,zI];obtain⟨h1,h2,h3⟩:=zMj hh he;obtain⟨w,hw⟩: ∃w,Eh v=w:=⟨_,rfl⟩;rw[hw]at h1 h2 h3;simp only[hw];have hws:szL w.1<=big:=Bb (jk h3) hv;rw[OJ hws,Aa];by_cases he0:errS w.1=0
     ·rw[Sa he0,zKw h1 h2];simp only[show((0:Int) != 0)=false from rfl,Ua,z8,Ba];rw[FR (d:=⟨nmD n.token.text,w.1,w.2⟩) hws (by rw[zNU];exact hn),Aa];cases Lf ⟨nmD n.token.text,w.1,w.2⟩<;>rfl
     ·have he1:(errS w.1 != 0)=true:=Xe.2 he0;have he2:Lf ⟨nmD n.token.text,w.1,w.2⟩=false:=by unfold Lf;simp only[show(errS w.1==0)=false from Ea.2 he0,Ac,Lc]
      rw[Oa he0,he2];simp only[he1,Ya,ZO,Aa,Ca,Ba];rfl
--< pulled
--p zValue_pos
--p sp
abbrev sp(l:List zb):List zb:=l.dropWhile isSp
--p sp_nil
--p lU
theorem lU(v:zb)(l:List zb):sp (v::l)=if isSp v then sp l else v::l:=by unfold sp;rw[Ic]
--p ai
theorem ai(l:List zb):(sp l).Sublist l:=Xb isSp
--p iA
theorem iA(l:List zb):(sp l).length<=l.length:=(ai l).length_le
--p sp_idem
--p EndS
--p trimB_idem
--p end_tail
--p end_sp
--p trimS_end
--p sp_pre
--p IC
theorem IC {α A S X R:Type} {step:S->Option (LO S X R)} {k:X->Option R} (l:List α) (f:A->α->A) (st:A->Nat->S) (out:A->X) {s0:S} {a0:A} (h0:s0=st a0 0)
  (hg: ∀(i:Nat) (a:A) (h:i<l.length),step (st a i)=some (.again (st (f a l[i]) (i+1))))
  (hf: ∀a:A,step (st a l.length)=some (.out (out a))):zU step s0 k=k (out (l.foldl f a0)):=by
 have key: ∀(m:List α) (i:Nat) (a:A),l.drop i=m->i<=l.length-> ∃n,qd step n (st a i)=some (.out (out (m.foldl f a))):=by
  intro m
  induction m with
  |nil=>
   intro i a hd hi;have:i=l.length:=by have:=Jd.1 hd;omega
   subst this;exact⟨1,by simp only[qd,hf,List.foldl_nil]⟩
  |cons v m ih=>
   intro i a hd hi;have hlt:i<l.length:=by
    rcases Yd i l.length with h|h
    ·exact h
    ·rw[Fg h]at hd;cases hd
   have hv:l[i]=v:=by have:=Ab hlt;rw[hd]at this;injection this with h1 _;exact h1.symm
   have hs:=hg i a hlt;rw[hv]at hs;obtain⟨n,hn⟩:=ih (i+1) (f a v) (by rw[Ab hlt]at hd;injection hd) (by omega);refine⟨n+1,?_⟩;simp only[qd,hs];rw[hn,Td]
 obtain⟨n,hn⟩:=key l 0 a0 rfl (by omega);rw[h0,qP (Ai hn)];rfl
--> pulled
theorem lC{α:Type}(p:α->Bool): ∀(l:List α) (b:Bool),l.foldl (fun b v=>b||p v) b=(b||l.any p)
 |[],b=>by simp
 |v::l,b=>by rw[Td,lC p l,Hf,Bool.or_assoc]
def Us(x:zJ):Bool:=(x.kind==9||x.kind==10)&&(!x.of_&&(x.anb.a==0&&x.anb.b==1))
def innS(x:zJ):Bool:=x.kind==3||(decide (9<=x.kind)&& !Us x)
mutual
def selL:List zm->Nat
 |[]=>0
 |⟨_,parts,_⟩::r=>max (selP parts) (selL r)
def selP:List zQ->Nat
 |[]=>0
 |⟨_,simples⟩::r=>max (selI simples) (selP r)
def selI:List zJ->Nat
 |[]=>0
 |⟨k,n,o,v,f,a,w,list⟩::r=>max (bif innS ⟨k,n,o,v,f,a,w,list⟩then 1+selL list else 0) (selI r)
end
def oneI(x:zJ):Nat:=bif innS x then 1+selL x.list else 0
theorem nV(l:List zJ):selI l=mx oneI l:=by
 induction l with
 |nil=>rw[selI];rfl
 |cons x l ih=>obtain⟨⟩:=x;rw[selI,ih];rfl
theorem kV(l:List zQ):selP l=mx (fun x=>selI x.simples) l:=by
 induction l with
 |nil=>rw[selP];rfl
 |cons x l ih=>obtain⟨⟩:=x;rw[selP,ih];rfl
theorem lV(l:List zm):selL l=mx (fun x=>selP x.parts) l:=by
 induction l with
 |nil=>rw[selL];rfl
 |cons x l ih=>obtain⟨⟩:=x;rw[selL,ih];rfl
mutual
theorem Sw: ∀l:List zm,selL l<=zL zf l
 |[]=>by rw[selL];exact Va _
 |⟨a,parts,b⟩::r=>by rw[selL,Z6,Qp];have:=jV parts;have:=Sw r;show max (selP parts) (selL r)<=3+zL zZ parts+b.length+_;omega
theorem jV: ∀l:List zQ,selP l<=zL zZ l
 |[]=>by rw[selP];exact Va _
 |⟨a,simples⟩::r=>by rw[selP,Z6,qI];have:=mV simples;have:=jV r;show max (selI simples) (selP r)<=2+a.length+zL zY simples+_;omega
theorem mV: ∀l:List zJ,selI l<=zL zY l
 |[]=>by rw[selI];exact Va _
 |⟨a,b,c,d,e,f,g,list⟩::r=>by rw[selI,Z6,Qq];have:=Sw list;have:=mV r;show max (bif innS ⟨a,b,c,d,e,f,g,list⟩then 1+selL list else 0) (selI r)<=9+b.length+d.length+zL zf list+_;cases innS ⟨a,b,c,d,e,f,g,list⟩<;>simp only[Ca,Ba]<;>omega
end
theorem CQ(x:zJ):(bif bif bif x.kind==9 then true else x.kind==10 then !x.of_ else false then x.anb.a==0&&(x.anb.b==1&&true)else false)=Us x:=by unfold Us;cases x.kind==9<;>cases x.kind==10<;>cases x.of_<;>cases x.anb.a==0<;>cases x.anb.b==1<;>rfl
theorem zu8(x:zJ):bK x=some (Us x):=congrArg some (CQ x)
theorem zJI(x:zJ):(bif x.kind==3 then true else bif decide (x.kind>=9)then !(bif bif bif x.kind==9 then true else x.kind==10 then !x.of_ else false then x.anb.a==0&&(x.anb.b==1&&true)else false)else false)=innS x:=by rw[CQ];unfold innS;show(bif x.kind==3 then true else bif decide (9<=x.kind)then !Us x else false)=_;cases x.kind==3<;>cases decide (9<=x.kind)<;>rfl
theorem zpF{l:List zm}(h:zL zf l<=big):Qv l=some (selL l:Int):=by
 refine ZG (fun l=>zL zf l) (fun l=>zL zf l<=big) (fun l=>(selL l:Int)) (fun S l hl hS=> ?_) h;have hlen:=ZF qH l;unfold BH;refine(gm l (fun x=>selP x.parts) (fun a i=>((a:Int),(i:Int))) (fun a=>(a:Int)) (a0:=0) rfl (fun i a hi=> ?_) (fun a=> ?_)).trans (by rw[lV,Nat.zero_max])
 ·have hm:=ZU (f:=zf) (Ha hi);have hz:=Qp l[i];have hlen2:=ZF Qx l[i].parts;simp only[zO hi,Ca,zM hi,za,Aa,zG hi (show l.length<=big by omega)];refine(gm l[i].parts (fun x=>selI x.simples) (fun a i=>((a:Int),(i:Int))) (fun a=>(a:Int)) (a0:=a) rfl (fun j b hj=> ?_) (fun a=> ?_)).trans (by rw[kV])
  ·have hm2:=ZU (f:=zZ) (Ha hj);have hz2:=qI l[i].parts[j];have hlen3:=ZF Gm l[i].parts[j].simples;simp only[zO hj,Ca,zM hj,Aa,zG hj (show l[i].parts.length<=big by omega)];refine(gm l[i].parts[j].simples oneI (fun a i=>((a:Int),(i:Int))) (fun a=>(a:Int)) (a0:=b) rfl (fun n c hn=> ?_) (fun a=> ?_)).trans (by rw[nV])
   ·have hm3:=ZU (f:=zY) (Ha hn);have hz3:=Qq l[i].parts[j].simples[n];have hle:=Sw l[i].parts[j].simples[n].list;simp only[zO hn,Ca,zM hn,Aa,zG hn (show l[i].parts[j].simples.length<=big by omega)];have hs:=hS l[i].parts[j].simples[n].list (by show zL zf l[i].parts[j].simples[n].list<=big;omega) (by show zL zf l[i].parts[j].simples[n].list<zL zf l;omega);have hw:=Xm (n:=selL l[i].parts[j].simples[n].list) (by omega);simp only[zJI,hs,Aa,hw];have hone:oneI l[i].parts[j].simples[n]=bif innS l[i].parts[j].simples[n]then 1+selL l[i].parts[j].simples[n].list else 0:=rfl;rw[hone];cases innS l[i].parts[j].simples[n]with
    |true=>simp only[Ca,zI,Mj,zG hn (show l[i].parts[j].simples.length<=big by omega)];rw[Re 1]
    |false=>simp only[Ba,zI,Nat.max_zero,zG hn (show l[i].parts[j].simples.length<=big by omega)]
   ·simp only[zW,Ba]
  ·simp only[zW,Ba]
 ·simp only[zW,Ba]
theorem zpz{l:List zm}(h:zL zf l<=big):Qt l=some (selL l:Int):=by
 refine ZG (fun l=>zL zf l) (fun l=>zL zf l<=big) (fun l=>(selL l:Int)) (fun S l hl hS=> ?_) h;have hlen:=ZF qH l;unfold EH;refine(gm l (fun x=>selP x.parts) (fun a i=>((a:Int),(i:Int))) (fun a=>(a:Int)) (a0:=0) rfl (fun i a hi=> ?_) (fun a=> ?_)).trans (by rw[lV,Nat.zero_max])
 ·have hm:=ZU (f:=zf) (Ha hi);have hz:=Qp l[i];have hlen2:=ZF Qx l[i].parts;simp only[zO hi,Ca,zM hi,za,Aa,zG hi (show l.length<=big by omega)];refine(gm l[i].parts (fun x=>selI x.simples) (fun a i=>((a:Int),(i:Int))) (fun a=>(a:Int)) (a0:=a) rfl (fun j b hj=> ?_) (fun a=> ?_)).trans (by rw[kV])
  ·have hm2:=ZU (f:=zZ) (Ha hj);have hz2:=qI l[i].parts[j];have hlen3:=ZF Gm l[i].parts[j].simples;simp only[zO hj,Ca,zM hj,Aa,zG hj (show l[i].parts.length<=big by omega)];refine(gm l[i].parts[j].simples oneI (fun a i=>((a:Int),(i:Int))) (fun a=>(a:Int)) (a0:=b) rfl (fun n c hn=> ?_) (fun a=> ?_)).trans (by rw[nV])
   ·have hm3:=ZU (f:=zY) (Ha hn);have hz3:=Qq l[i].parts[j].simples[n];have hle:=Sw l[i].parts[j].simples[n].list;simp only[zO hn,Ca,zM hn,Aa,zG hn (show l[i].parts[j].simples.length<=big by omega)];have hs:=hS l[i].parts[j].simples[n].list (by show zL zf l[i].parts[j].simples[n].list<=big;omega) (by show zL zf l[i].parts[j].simples[n].list<zL zf l;omega);have hw:=YI (n:=selL l[i].parts[j].simples[n].list) (by omega);have hinn:(bif l[i].parts[j].simples[n].kind==3 then true else bif decide ((bif !(l[i].parts[j].simples[n].kind==3)then l[i].parts[j].simples[n]else(default:zJ)).kind>=9)then !(bif decide ((bif !(l[i].parts[j].simples[n].kind==3)then l[i].parts[j].simples[n]else(default:zJ)).kind>=9)&& !(l[i].parts[j].simples[n].kind==3)then Us (bif decide ((bif !(l[i].parts[j].simples[n].kind==3)then l[i].parts[j].simples[n]else(default:zJ)).kind>=9)&& !(l[i].parts[j].simples[n].kind==3)then l[i].parts[j].simples[n]else(default:zJ))else default)else false)=innS l[i].parts[j].simples[n]:=by
     unfold innS;cases hk:l[i].parts[j].simples[n].kind==3 with
     |true=>rfl
     |false=>
      simp only[Ca,Ba,Ua,Rb,Ld];show(bif decide (9<=l[i].parts[j].simples[n].kind)then _ else _)=(decide (9<=l[i].parts[j].simples[n].kind)&&_);cases h9:decide (9<=l[i].parts[j].simples[n].kind)with
      |false=>rfl
      |true=> have h9':decide (l[i].parts[j].simples[n].kind>=9)=true:=h9;simp only[h9',Ca,aa]
    simp only[zX,Aa,Qi,zu8,hinn,hs,hw];have hone:oneI l[i].parts[j].simples[n]=bif innS l[i].parts[j].simples[n]then 1+selL l[i].parts[j].simples[n].list else 0:=rfl;rw[hone];cases innS l[i].parts[j].simples[n]with
    |true=>simp only[Ca,zI,Mj,zG hn (show l[i].parts[j].simples.length<=big by omega)];rw[Re 1]
    |false=>simp only[Ba,zI,Nat.max_zero,zG hn (show l[i].parts[j].simples.length<=big by omega)]
   ·simp only[zW,Ba]
  ·simp only[zW,Ba]
 ·simp only[zW,Ba]
mutual
def askB:zu->Bool
 |⟨k,_,_,_,l⟩=>(k==5||k==6)||YA l
def YA:List zu->Bool
 |[]=>false
 |c::r=>askB c||YA r
end
theorem Ko(c:zu):askB c=((c.kind==5||c.kind==6)||c.list.any askB):=by
 have: ∀l:List zu,YA l=l.any askB:=by
  intro l
  induction l with
  |nil=>rw[YA];rfl
  |cons c l ih=>rw[YA,ih];rfl
 obtain⟨k,n,m,d,l⟩:=c;rw[askB,this]
def bN(b:Bool):Int:=bif b then 1 else 0
theorem zvi{c:zu}(h:zq (zk c)<=big):En c=some (bN (askB c)):=by
 refine ZG (fun c=>zq (zk c)) (fun c=>zq (zk c)<=big) (fun c=>bN (askB c)) (fun S c hc hS=> ?_) h;have hlen:=Qb c;have hj: ∀{R:Type} (k:Int->Option R),Zi (X:=Int) (bif bif c.kind==5 then true else c.kind==6 then some (LX.out 1)else some (LX.out 0)) k=k (bN (c.kind==5||c.kind==6)):=by intro R k;cases c.kind==5<;>cases c.kind==6<;>rfl
 unfold wF;rw[hj];refine(IC c.list (fun b y=>b||askB y) (fun b i=>(bN b,(i:Int))) bN (a0:=(c.kind==5||c.kind==6)) rfl (fun i b hi=> ?_) (fun b=> ?_)).trans (by rw[lC,<-Ko])
 ·have hm:=qW (Ha hi);simp only[zO hi,Ca,zM hi,za,Aa,Zm,hS c.list[i] (show zq (zk c.list[i])<=big by omega) hm,zG hi (show c.list.length<=big by omega)];cases b<;>cases askB c.list[i]<;>rfl
 ·simp only[zW,Ba]
def unw(c:zu):zu:=match c.list with
 |[y]=>bif c.kind==3 then y else c
 |_=>c
def askR(c:zu):Bool:=c.list.any fun y=>(unw y).list.any fun z=>z.kind != 4
theorem zOx(c:zu)(R:Type)(a:Int)(k:Int×zu->Option R):Zi (X:=Int×zu) (
       bif bif c.kind==3 then(c.list.length:Int)==1 else false then
        (geti c.list 0).bind fun y4=>
        some (LX.out (a,y4))
       else
        some (LX.out (a,c))) k=k (a,unw c):=by
 unfold unw;cases hl:c.list with
 |nil=>cases c.kind==3<;>rfl
 |cons y r=>
  cases r with
  |nil=>cases c.kind==3<;>rfl
  |cons z r=>rw[KO];cases c.kind==3<;>rfl
theorem zM1{c:zu}(h:zq (zk c)<=big):(unw c).list.length<=big:=by
 have:=Qb c;unfold unw;split
 ·rename_i y hl;have:=qW (c:=c) (y:=y) (by rw[hl];exact Ob);have:=Qb y;cases c.kind==3<;>simp only[Ca,Ba]<;>omega
 ·omega
theorem zHZ{l:List zu}(hl:l.length<=big)(h: ∀c∈l,zq (zk c)<=big):zU (fun(s2:Int×Int)=>
    bif decide (s2.2<(l.length:Int))then
     (geti l s2.2).bind fun y3=>
     Zi (X:=Int×zu) (
       bif bif y3.kind==3 then(y3.list.length:Int)==1 else false then
        (geti y3.list 0).bind fun y4=>
        some (LX.out (s2.1,y4))
       else
        some (LX.out (s2.1,y3))) fun j5=>
     zU (fun(s6:Int×Int)=>
       bif decide (s6.2<(j5.2.list.length:Int))then
        Zi (X:=Int×Int) (
          (geti j5.2.list s6.2).bind fun y7=>
          bif y7.kind != 4 then
           some (LX.out (1,s6.2))
          else
           some (LX.out (s6.1,s6.2))) fun j8=>
        some (LO.again (j8.1,w64 (j8.2+1)))
       else
        some (LO.out s6.1):Int×Int->Option (LO (Int×Int) (Int) _)) (j5.1,0) fun o9=>
     some (LO.again (o9,w64 (s2.2+1)))
    else
     some (LO.out s2.1):Int×Int->Option (LO (Int×Int) (Int) _)) (0,0) (fun o10=>some o10)=some (bN (l.any fun y=>(unw y).list.any fun z=>z.kind != 4)):=by
 refine(IC l (fun b y=>b||(unw y).list.any fun z=>z.kind != 4) (fun b i=>(bN b,(i:Int))) bN (a0:=false) rfl (fun i b hi=> ?_) (fun b=> ?_)).trans (by rw[lC,Ld])
 ·have hb:=h _ (Ha hi);have hul:=zM1 hb;simp only[zO hi,Ca,zM hi,Aa,zG hi hl];rw[zOx];refine(IC (unw l[i]).list (fun b (z:zu)=>b||z.kind != 4) (fun b i=>(bN b,(i:Int))) bN (a0:=b) rfl (fun j d hj=> ?_) (fun b=> ?_)).trans (by rw[lC])
  ·simp only[zO hj,Ca,zM hj,Aa];cases (unw l[i]).list[j].kind != 4 with
   |true=>simp only[Ca,zI,zG hj hul,Bool.or_true];rfl
   |false=>simp only[Ba,zI,zG hj hul,Ud]
  ·simp only[zW,Ba]
 ·simp only[zW,Ba]
theorem YJ{α:Type}{p q:α->Bool}: ∀{l:List α},(∀v∈l,p v=q v)->l.any p=l.any q
 |[],_=>rfl
 |x::l,h=>by rw[Hf,Hf,h x Ob,YJ fun v hv=>h v (Kb _ hv)]
theorem zJN{b:Bool}{y:zu}(h:ig b y=true):askB y=(y.kind != 4):=by
 unfold ig at h;rw[Da]at h;have hl:y.list=[]:=We.1 h.1;rw[Ko,hl,List.any_nil,Ud,bne];have h2:=h.2;rw[Da]at h2;have h3:=h2.2;simp only[Yc,Da,Db]at h3;rcases h3 with⟨_,h4,_⟩|⟨h5|h6,_⟩
 ·rw[h4];rfl
 ·rw[h5];rfl
 ·rw[h6];rfl
theorem zET{l:List zu}(h:Mq l=true): ∀y∈l,askB y=(y.kind != 4):=by intro y hy;obtain⟨i,hi,rfl⟩:=List.mem_iff_getElem.1 hy;unfold Mq at h;have:=Pb.1 h i (by simpa using hi);simp only[Ye,Ta hi,Option.getD_some]at this;exact zJN this
theorem AZ{c:zu}(h:di c=true):askB c=c.list.any fun z=>z.kind != 4:=by unfold di at h;simp only[Da,Db]at h;rw[Ko,h.1];show((false||false)||_)=_;rw[Gg,Ld];exact YJ (zET h.2.2.2)
theorem zIR{c:zu}(h:Sg c=true):askB c=(unw c).list.any fun z=>z.kind != 4:=by
 unfold Sg at h;unfold unw;cases h3:c.kind==3 with
 |false=>
  rw[h3,Ba]at h;have:=AZ h;split
  ·rw[Ba];exact this
  ·exact this
 |true=>
  rw[h3,Ca,Da]at h;have h2:=h.2;split at h2
  ·rename_i y hl;simp only[hl,Ca];rw[Da]at h2;rw[Ko,Db.1 h3,hl,Hf,List.any_nil,Ud,AZ h2.1];rfl
  ·cases h2
theorem zE0{c:zu}(h:Bl c=true):askB c=askR c:=by
 unfold Bl at h;rw[Da,Yc,Da,Da,Da,Da,Db,Db]at h;unfold askR;rw[Ko];rcases h.2 with⟨h1,h2⟩|⟨h1,h2⟩
 ·rw[h1,We.1 h2];rfl
 ·rw[h1];show((false||false)||_)=_;rw[Gg,Ld];exact YJ fun y hy=>zIR (Pb.1 h2.2.2 y hy)
def bv(r:zN):Bool:=r.selectors.isEmpty&&r.decls.isEmpty
def Gj(r:zN):Bool:=
 bif r.kind==1 then(selS r.selectors==0)&&(decide (r.decls.length<=32)&&(Nh r.cond&&(r.names.isEmpty&&(r.rules.isEmpty&&r.decls.all Lf))))
 else bif r.kind==2 then bv r&&(r.names.isEmpty&&Bl r.cond)
 else bif r.kind==3 then bv r&&(r.names.isEmpty&&Jk r.cond)
 else bif r.kind==4 then bv r&&(decide (r.names.length<=1)&&Nh r.cond)
 else bif r.kind==5 then bv r&&(!r.names.isEmpty&&(decide (r.names.length<=64)&&(r.rules.isEmpty&&Nh r.cond)))
 else false
mutual
def qm:zN->Bool
 |⟨k,s,d,c,n,l⟩=>Gj ⟨k,s,d,c,n,l⟩&&(n.all Ig&&Rw l)
def Rw:List zN->Bool
 |[]=>true
 |r::l=>qm r&&Rw l
end
theorem zCV(l:List zN):Rw l=l.all qm:=by
 induction l with
 |nil=>rw[Rw];rfl
 |cons c l ih=>rw[Rw,ih];rfl
theorem Lu(r:zN):qm r=(Gj r&&(r.names.all Ig&&r.rules.all qm)):=by obtain⟨k,s,d,c,n,l⟩:=r;rw[qm,zCV]
def Ej(r:zN):Nat:=bif r.kind==3 then Mf r.cond else bif r.kind==2 then(bif askB r.cond then 1 else 0)else 0
mutual
def Pf:zN->Nat
 |⟨k,s,d,c,n,l⟩=>bif k==5 then 0 else max (1+max (yA l) (mx (fun d=>Zc d.value) d)) (max (selL s) (Ej ⟨k,s,d,c,n,l⟩))
def yA:List zN->Nat
 |[]=>0
 |r::l=>max (Pf r) (yA l)
end
theorem zGa(l:List zN):yA l=mx Pf l:=by
 induction l with
 |nil=>rw[yA];rfl
 |cons c l ih=>rw[yA,ih];rfl
theorem Dx(r:zN):Pf r=bif r.kind==5 then 0 else max (1+max (mx Pf r.rules) (mx (fun d=>Zc d.value) r.decls)) (max (selL r.selectors) (Ej r)):=by obtain⟨k,s,d,c,n,l⟩:=r;rw[Pf,zGa]
theorem mx_z{α:Type}{f:α->Nat}{g:α->List PV}: ∀{l:List α},(∀v∈l,f v<=zq (g v))->mx f l<=zL g l
 |[],_=>Va _
 |v::l,h=>by rw[mx,Z6];have:=h v Ob;have:=mx_z (l:=l) (f:=f) (g:=g) fun w hw=>h w (Kb _ hw);omega
theorem PK(l:List Zu):mx (fun d=>Zc d.value) l<=zL Zv l:=
 mx_z fun d _=>by have:=lm d.value;have:=Lh d.value;have:=qX d;omega
theorem zJa(r:zN):Ej r<=1+zq (zk r.cond):=by have:=tC r.cond;unfold Ej;cases r.kind==3<;>cases r.kind==2<;>cases askB r.cond<;>simp only[Ca,Ba]<;>omega
theorem FZ{r y:zN}(h:y∈r.rules):zq (zy y)<zq (zy r):=by have hz:=Mi r;have:=ZU (f:=zy) h;omega
theorem zJk: ∀r:zN,Pf r<=zq (zy r):=by
 have key: ∀(n:Nat) (r:zN),zq (zy r)<n->Pf r<=zq (zy r):=by
  intro n
  induction n with
  |zero=>intro c h;omega
  |succ n ih=> intro r h;have hz:=Mi r;have h1:mx Pf r.rules<=zL zy r.rules:=mx_z fun y hy=>ih y (by have:=FZ hy;omega);have h2:=PK r.decls;have h3:=Sw r.selectors;have h4:=zJa r;rw[Dx];cases r.kind==5<;>simp only[Ca,Ba]<;>omega
 exact fun c=>key _ c (Fe _)
theorem MQ(l:List zN):mx Pf l<=zL zy l:=mx_z fun y _=>zJk y
theorem Ox(r:zN):(⟨r.kind,r.selectors,r.decls,r.cond,r.names,r.rules⟩:zN)=r:=by cases r;rfl
end Go.Lv.VT
