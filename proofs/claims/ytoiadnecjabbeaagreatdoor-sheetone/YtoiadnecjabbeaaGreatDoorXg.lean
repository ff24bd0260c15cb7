/- Selectors, read: simple ones, compounds, complex ones, lists: they have a value, of at most three times the size of what is read. -/
import Derived.Test.YtoiadnecjabbeaaGreatDoorXf
import Derived.Test.YtoiadnecjabbeaaGreatDoorXe
import Derived.Test.YtoiadnecjabbeaaGreatDoorMo
import Derived.KernelRfl
set_option linter.unusedSimpArgs false
set_option linter.unusedVariables false
namespace Go.Lv.VT
set_option maxRecDepth 100000
def Yi(p:zf):Prop:= ∃(d:Nat) (h:Bool),d<=3/\p=⟨(d:Int),h⟩
theorem jN{p:zf}(hp:Yi p)(k:Int):Has (Qd (p,k)) fun y=>Yi y.1:=by
 obtain⟨d,h,hd,rfl⟩:=hp;refine Has.of (IP hd h k) ?_;cases hc:(d==3||h&&k==14)with
 |true=>exact⟨0,false,by decide,rfl⟩
 |false=> refine⟨d+1,_,?_,rfl⟩;rw[Ve]at hc;have:=Ga.1 hc.1;omega
theorem BS(v:List za)(n:Nat):zL zg (v.drop n)<=zL zg v:=Ig (List.drop_sublist ..)
theorem zIu(v:List za)(n:Nat):zL zg (v.take n)<=zL zg v:=Ig (List.take_sublist ..)
theorem KT(v:List za)(h:zL zg v<=big):szL v<=big:=Ab (Ij v) h
theorem WW{v:List za}(hz:zL zg v<=big):Has (Qa v) fun i=> -1<=i/\i<v.length:=by
 have hv:v.length<=big:=Ab (zLen v) hz;unfold Qa;refine Has.of (sj v (fun y=>y.token.kind==1&&(lowS y.token.text==lowS [111,102])) hv (fun i hi=> ?_) ?_) (KF _ _)
 ·have ht:v[i].token.text.length<=big:=by have:=Ao v i;rw[kG hi]at this;omega
  simp only[qa hi,Da,Zy hi,ze,Aa,WI,Xm ht (show([111,102]:Str).length<=big by decide),ZJ];cases v[i].token.kind==1<;>rfl
 ·simp only[ZU,Ca]
section
variable {S:List za×zf×Bool×Bool->Option (List zq×Bool)} {N:Nat}
variable (hS: ∀(l:List za) (p:zf) (a b:Bool),Yi p->zL zg l<N->Has (S (l,p,a,b)) fun y=>zL zy y.1<=3*zL zg l) (hN:N<=big)
include hS hN
theorem zFw{v:List za}(hz:zL zg v<N){p:zf}(hp:Yi p)(k:Int):Has (Jp S (⟨k,[],0,[],false,⟨0,0⟩,false,[]⟩,v,p)) fun y=>zA (zW y.1)<=9+3*zL zg v:=by
 have fin: ∀(a:VAnb) (o:Bool) (l:List zq),zL zy l<=3*zL zg v->zA (zW ⟨k,[],0,[],false,a,o,l⟩)<=9+3*zL zg v:=fun a o l hl=>by rw[zS];simp only[Xa];omega
 unfold Jp;refine Has.bind (WW (v:=v) (by omega)) fun i hi=> ?_;refine Has.join (P:=fun j=>(∃m:Nat,j.1=v.take m)/\ ∃(o:Bool) (l:List zq),j.2.1=⟨k,[],0,[],false,⟨0,0⟩,o,l⟩/\zL zy l<=3*zL zg v) ?_ fun j hj=> ?_
 ·refine Has.bif (fun h=> ?_) fun _=>Has.some ⟨⟨v.length,(Df ..).symm⟩,false,[],rfl,Ya _⟩;have h0:0<=i:=Sb h;obtain⟨n,rfl⟩: ∃n:Nat,i=(n:Int):=⟨i.toNat,by omega⟩;have hl:=zLen v;have e1:w64 ((n:Int)+1)=((n+1:Nat):Int):=Bi (by unfold big at *; omega);refine Has.bind (jN hp _) fun q hq=> ?_;refine Has.need (by dsimp only;rw[e1,Fa,Va,Va];omega) ?_;refine Has.bind (hS _ _ _ _ hq (Nat.lt_of_le_of_lt (BS ..) hz)) fun y hy=> ?_;refine Has.bif (fun _=>Has.some (fin _ _ _ (Ya _))) fun _=> ?_;refine Has.need (by rw[Fa,Va,Va];dsimp only;omega) ?_;refine Has.some ⟨⟨n,rfl⟩,true,y.1,rfl,?_⟩;have:=BS v (w64 ((n:Int)+1)).toNat;have hy:zL zy y.1<=3*zL zg (List.drop (w64 ((n:Int)+1)).toNat v):=hy;omega
 ·obtain⟨j1,j2,j3⟩:=j;obtain⟨⟨m,e1⟩,o,l,e2,hl⟩:=hj;have e1:j1=_:=e1;have e2:j2=_:=e2;subst e1 e2;dsimp only;have h1:=zIu v m;refine Has.eqb (BQ (KT _ (by omega))) ?_;refine Has.bif (fun _=>Has.some (fin _ _ _ hl)) fun he=> ?_;refine Has.bind (zEk ?_) fun z _=>Has.some (fin _ _ _ hl);by_cases h0:errS (v.take m)=0
  ·rw[Ka h0];exact zGb (by omega)
  ·rw[Ia h0];exact fun t ht=>nomatch ht
theorem zCz{s:Str}(hs:s.length<=big){v:List za}(hz:zL zg v<N){p:zf}(hp:Yi p):Has (Qc S (s,v,p)) fun y=>zA (zW y.1)<=9+3*zL zg v:=by
 have fin: ∀(k:Int) (l:List zq),zL zy l<=3*zL zg v->zA (zW ⟨k,[],0,[],false,⟨0,0⟩,false,l⟩)<=9+3*zL zg v:=fun k l hl=>by rw[zS];simp only[Xa];omega
 unfold Qc;refine Has.eqb (show Wx ()=some _ from rfl) ?_;refine bLow hs ?_;refine Has.bind (P:=fun _=>True) (Has.of (uQ _ _ (by decide)) trivial) fun i _=> ?_;refine Has.bif (fun _=>Has.some (fin _ _ (Ya _))) fun _=> ?_;refine Has.bif (fun _=> ?_) fun _=> ?_
 ·refine Has.bind (zFw hS hN hz hp _) fun y hy=>Has.some ?_;dsimp only;rw[dm];exact hy
 ·refine Has.bind (jN hp _) fun q hq=> ?_;refine Has.bif (fun _=>Has.some (fin _ _ (Ya _))) fun _=> ?_;exact Has.bind (hS _ _ _ _ hq hz) fun y hy=>Has.some (fin _ _ hy)
theorem tX{v:List za}(hz:zL zg v<=N){p:zf}(hp:Yi p){n:Nat}(hn:n<=v.length):
  Has (ZW S (p,⟨v,(n:Int)⟩)) fun y=> ∃m:Nat,y.2=⟨v,(m:Int)⟩/\n<=m/\m<=v.length+2/\(y.1.2=true->m<=v.length/\zL zW y.1.1+6*y.1.1.length+3*zT v n<=3*zT v m):=by
 have hv:v.length<=big:=by have:=zLen v;omega
 have tl: ∀n,(yf v n).text.length<=big:=fun n=>by have:=Ao v n;omega
 unfold ZW;refine Has.loop (fun s=> ∃m:Nat,s.1=⟨v,(m:Int)⟩/\n<=m/\m<=v.length/\zL zW s.2+6*s.2.length+3*zT v n<=3*zT v m) (fun s=>v.length - s.1.at_.toNat) (P:=fun _=>False)
  ⟨n,rfl,Ra _,hn,by show 0+6*0+_<=_;omega⟩ (fun s ⟨m,e,h1,h2,h3⟩=> ?_) fun x hx=>hx.elim
 obtain⟨s1,l⟩:=s;have e:s1=_:=e;subst e;dsimp only at h3 ⊢;refine bPk1 hv (by omega) ?_;refine Has.join (P:=fun j=> ∃m':Nat,j.2.1=⟨v,(m':Int)⟩/\m<m'/\m'<=v.length+2/\j.2.2.1=l/\(j.1=true->m'<=v.length/\zA (zW j.2.2.2)+6+3*zT v m<=3*zT v m')) ?_ fun j hj=> ?_
 ·refine bPk0 hv (by omega) ?_;have zs: ∀(k:Int) (s:Str),zA (zW ⟨k,s,0,[],false,⟨0,0⟩,false,[]⟩)=9+s.length:=fun k s=>by rw[zS];simp only[Gh,Xa];omega
  refine Has.bif (fun hk=> ?_) fun _=>Has.bif (fun hk=> ?_) fun _=>Has.bif (fun hk=> ?_) fun _=>Has.bif (fun hk=> ?_) fun _=> ?_
  ·have hl:=Sl hk (by decide);have:=Jj hl;refine Has.some ⟨m+1,by dsimp only;rw[at1 hv (n:=m) (by omega)],by omega,by omega,rfl,fun _=>⟨hl,?_⟩⟩;dsimp only;rw[zs];omega
  ·have hl:m<v.length:=kr fun e=>by rw[e]at hk;cases hk
   refine Has.some ⟨m+2,by dsimp only;rw[at2 hv (n:=m) (by omega)],by omega,by omega,rfl,fun hf=> ?_⟩;have hl2:=Sl hf (by decide);have:=Jj hl;have:=Jj hl2;have e2:zT v (m+1+1)=zT v (m+2):=rfl;refine⟨hl2,?_⟩;dsimp only;rw[zs];omega
  ·have hl:=Sl hk (by decide);have h4:=Jj hl;have h5:=Si v (m+1);refine Has.bind (P:=fun y=>y=v[m].list) ?_ fun y hy=> ?_
   ·unfold Qx;dsimp only;rw[Int.add_zero,Ky (by unfold big at *; omega),Zy hl];exact Has.some rfl
   ·subst hy;refine Has.bind (zBS (by omega)) fun y hy=> ?_;refine Has.some ⟨m+1,by dsimp only;rw[at1 hv (n:=m) (by omega)],by omega,by omega,rfl,fun _=>⟨hl,?_⟩⟩;dsimp only;rw[dm];omega
  ·have hl:=Sl hk (by decide);have h4:=Jj hl;refine Has.join (P:=fun j=>j.2.1=⟨v,(m:Int)⟩/\(j.1=true->m+1<v.length/\zA (zW j.2.2)+6+3*zT v m<=3*zT v (m+2))) ?_ fun j hj=> ?_
   ·refine Has.bif (fun hk2=> ?_) fun _=>Has.bif (fun hk2=> ?_) fun _=>Has.some ⟨rfl,fun h=>nomatch h⟩
    ·have hl2:=Sl hk2 (by decide);have h5:=Jj hl2;refine Has.bind (zDG (tl _)) fun y hy=>Has.some ⟨rfl,fun _=>⟨hl2,?_⟩⟩;dsimp only;rw[dm];show _+6+3*zT v m<=3*zT v (m+1+1);omega
    ·have hl2:=Sl hk2 (by decide);have h5:=Jj hl2;have h6:=Si v (m+1+1);refine Has.bind (P:=fun y=>y=v[m+1].list) ?_ fun y hy=> ?_
     ·unfold Qx;dsimp only;rw[at1 hv (n:=m) (by omega),Zy hl2];exact Has.some rfl
     ·subst hy;refine Has.bind (zCz hS hN (tl _) (by omega) hp) fun y hy=>Has.some ⟨rfl,fun _=>⟨hl2,?_⟩⟩;dsimp only;rw[dm];show _+6+3*zT v m<=3*zT v (m+1+1);omega
   ·obtain⟨j1,j2,j3⟩:=j;obtain⟨e,h5⟩:=hj;have e:j2=_:=e;subst e;refine Has.some ⟨m+2,by dsimp only;rw[at2 hv (n:=m) (by omega)],by omega,by omega,rfl,fun hf=> ?_⟩;have h6:=h5 hf;refine⟨by omega,?_⟩;dsimp only at h6 ⊢;rw[dm];exact h6.2
  ·exact Has.some ⟨m,rfl,h1,by omega,fun _=>⟨h2,h3⟩⟩
 ·obtain⟨j1,j2,j3,j4⟩:=j;obtain⟨m',e,h4,h5,e2,h6⟩:=hj;have e:j2=_:=e;have e2:j3=_:=e2;subst e e2;refine Has.bif (fun _=>Has.some ⟨m',rfl,by omega,h5,fun h=>nomatch h⟩) fun hf=> ?_;have hf:j1=true:=by cases j1<;>first|rfl|cases hf
  obtain⟨h7,h8⟩:=h6 hf;have h9:=Si v m';dsimp only at h3 h8;refine Has.need (qg (by dsimp only;unfold big at *; omega)) ?_;refine Has.some ⟨⟨m',rfl,by omega,h7,?_⟩,?_⟩
  ·dsimp only;rw[dm,bi,ZK,Gh,La,Ea,Xa];omega
  ·show v.length - (m':Int).toNat<v.length - (m:Int).toNat;omega
end
theorem YG {α R:Type} {step:Int×Int->Option (LO (Int×Int) Int R)} {k:Int->Option R} (l:List α) (f:α->Nat) (a0 M:Nat) (hb:a0+(l.map f).sum<=M)
  (hg: ∀(i a:Nat) (h:i<l.length),a+f l[i]<=M->step ((a:Int),(i:Int))=some (.again (((a+f l[i]:Nat):Int),((i+1:Nat):Int))))
  (hf: ∀a:Nat,step ((a:Int),(l.length:Int))=some (.out (a:Int))):Zp step ((a0:Int),0) k=k ((a0+(l.map f).sum:Nat):Int):=by
 have key: ∀(m:List α) (i a:Nat),l.drop i=m->i<=l.length->a+(m.map f).sum<=M-> ∃n,qd step n ((a:Int),(i:Int))=some (.out ((a+(m.map f).sum:Nat):Int)):=by
  intro m
  induction m with
  |nil=>
   intro i a hd hi _;have:i=l.length:=by have:=Yc.1 hd;omega
   subst this;exact⟨1,by simp only[qd,hf];simp⟩
  |cons v m ih=>
   intro i a hd hi hM;have hlt:i<l.length:=by
    rcases Wd i l.length with h|h
    ·exact h
    ·rw[List.drop_eq_nil_of_le h]at hd;cases hd
   have hv:l[i]=v:=by have:=Cb hlt;rw[hd]at this;injection this with h1 _;exact h1.symm
   rw[Ac,Me]at hM ⊢;have hs:=hg i a hlt (by rw[hv];omega);rw[hv]at hs;obtain⟨n,hn⟩:=ih (i+1) (a+f v) (by rw[Cb hlt]at hd;injection hd) (by omega) (by omega);refine⟨n+1,?_⟩;simp only[qd,hs];rw[hn,Xe]
 obtain⟨n,hn⟩:=key l 0 a0 rfl (by omega) hb;replace hn:qd step n ((a0:Int),0)=_:=hn;rw[qY (xh hn)];rfl
mutual
/-- How many complex ones there are, in all. -/
def numL:List zq->Nat
 |[]=>0
 |⟨_,parts,_⟩::r=>1+numQ parts+numL r
def numQ:List zO->Nat
 |[]=>0
 |⟨_,simples⟩::r=>numI simples+numQ r
def numI:List zF->Nat
 |[]=>0
 |⟨_,_,_,_,_,_,_,list⟩::r=>numL list+numI r
end
theorem zFy(l:List zF):numI l=(l.map fun x=>numL x.list).sum:=by
 induction l with
 |nil=>rw[numI];rfl
 |cons x l ih=>obtain⟨⟩:=x;rw[numI,ih];rfl
theorem zFA(l:List zO):numQ l=(l.map fun x=>numI x.simples).sum:=by
 induction l with
 |nil=>rw[numQ];rfl
 |cons x l ih=>obtain⟨⟩:=x;rw[numQ,ih];rfl
theorem zFz(l:List zq):numL l=l.length+(l.map fun x=>numQ x.parts).sum:=by
 induction l with
 |nil=>rw[numL];rfl
 |cons x l ih=>obtain⟨⟩:=x;rw[numL,ih,Ac,Me,Ea];dsimp only;omega
mutual
theorem wE: ∀l:List zq,numL l<=zL zy l
 |[]=>by rw[numL];exact Ya _
 |⟨a,parts,b⟩::r=>by rw[numL,ZK,yo];have:=dU parts;have:=wE r;show 1+numQ parts+numL r<=3+zL zX parts+b.length+_;omega
theorem dU: ∀l:List zO,numQ l<=zL zX l
 |[]=>by rw[numQ];exact Ya _
 |⟨a,simples⟩::r=>by rw[numQ,ZK,Rp];have:=eU simples;have:=dU r;show numI simples+numQ r<=2+a.length+zL zW simples+_;omega
theorem eU: ∀l:List zF,numI l<=zL zW l
 |[]=>by rw[numI];exact Ya _
 |⟨a,b,c,d,e,f,g,list⟩::r=>by rw[numI,ZK,Rm];have:=wE list;have:=eU r;show numL list+numI r<=9+b.length+d.length+zL zy list+_;omega
end
theorem K9{l:List zq}(h:zL zy l<=big):qU l=some (numL l:Int):=by
 refine Pj (fun l=>zL zy l) (fun l=>zL zy l<=big) (fun l=>(numL l:Int)) (fun S l hl hS=> ?_) h;unfold PD;have hn:=wE l;have hlen:=Ag sw l;rw[zFz]at hn ⊢;refine(YG l (fun x=>numQ x.parts) l.length big (by omega) (fun i a hi ha=> ?_) (fun a=> ?_)).trans rfl
 ·have hm:=Ah (f:=zy) (Pb hi);have hz:=yo l[i];have hlen2:=Ag Dx l[i].parts;simp only[qa hi,Da,Zy hi,ze,Aa,ZI hi (show l.length<=big by omega)];rw[zFA]at ha ⊢;refine(YG l[i].parts (fun x=>numI x.simples) a big ha (fun j b hj hb=> ?_) (fun a=> ?_)).trans rfl
  ·have hm2:=Ah (f:=zX) (Pb hj);have hz2:=Rp l[i].parts[j];have hlen3:=Ag EB l[i].parts[j].simples;simp only[qa hj,Da,Zy hj,Aa,ZI hj (show l[i].parts.length<=big by omega)];rw[zFy]at hb ⊢;refine(YG l[i].parts[j].simples (fun x=>numL x.list) b big hb (fun m c hm3 hc=> ?_) (fun a=> ?_)).trans rfl
   ·have hm4:=Ah (f:=zW) (Pb hm3);have hz3:=Rm l[i].parts[j].simples[m];simp only[qa hm3,Da,Zy hm3,Aa,ZI hm3 (show l[i].parts[j].simples.length<=big by omega)];rw[hS _ (by show zL zy l[i].parts[j].simples[m].list<=big;omega) (by show zL zy l[i].parts[j].simples[m].list<zL zy l;omega)];simp only[Aa,zGk hc]
   ·simp only[ZU,Ca]
  ·simp only[ZU,Ca]
 ·simp only[ZU,Ca]
theorem zCb{c:zO}(hx:zA (zX c)<=big){p:zf}(hp:Yi p):Has (QE zB (c,p)) fun b=>b=true->c.tag≠[]\/c.simples≠[]:=by
 obtain⟨d,h,hd,rfl⟩:=hp;refine Has.of (PQ (S:=zB) (N:=big) (fun z ⟨h1,d',h2,h3⟩ _=> ?_) (Ra _) hx hd h) fun hc=> ?_
 ·obtain⟨c',⟨dp,h'⟩,b⟩:=z;have h3:dp=(d':Int):=h3;subst h3;exact BX h1 h2
 ·rw[jP]at hc;unfold nD at hc;simp only[Fa,Fe,Bool.not_eq_true']at hc;rcases hc.1.2.1 with h1|h1
  ·exact .inl fun e=>by rw[e]at h1;cases h1
  ·exact .inr fun e=>by rw[e]at h1;cases h1
section
variable {S:List za×zf×Bool×Bool->Option (List zq×Bool)} {N:Nat}
variable (hS: ∀(l:List za) (p:zf) (a b:Bool),Yi p->zL zg l<N->Has (S (l,p,a,b)) fun y=>zL zy y.1<=3*zL zg l) (hN:4*N+8<=big)
include hS hN
theorem aY{v:List za}(hz:zL zg v<=N){p:zf}(hp:Yi p)(r:Bool):
  Has (qN S (v,p,r)) fun y=>y.2=true->zA (zy y.1)<=3*zL zg v:=by
 have hv:v.length<=big:=by have:=zLen v;omega
 have tl: ∀n,(yf v n).text.length<=big:=fun n=>by have:=Ao v n;omega
 unfold qN;refine bSp (n:=0) hv (by omega) fun _ a _ ha=> ?_;refine Has.join (P:=fun j=> ∃m:Nat,m<=v.length/\j.2.1=⟨v,(m:Int)⟩) ?_ fun j hj=> ?_
 ·refine Has.bif (fun _=> ?_) fun _=>Has.some ⟨a,by omega,rfl⟩;refine bCo hv (by omega) fun c m _ _ _ hm=> ?_;exact Has.bif (fun _=>Has.some ⟨m,by omega,rfl⟩) fun _=>Has.some ⟨m,by omega,rfl⟩
 refine Has.join (P:=fun j:Int×zm×Int=> ∃m:Nat,m<=v.length/\j.2.1=(⟨v,(m:Int)⟩:zm)) (Has.some hj) fun j hj=> ?_;obtain⟨j1,j2,j3⟩:=j;obtain⟨a0,ha0,e⟩:=hj;have e:j2=_:=e;subst e;refine Has.loop (fun s=> ∃m:Nat,m<=v.length/\s.2.1=⟨v,(m:Int)⟩/\zL zX s.2.2.2.1+s.2.2.2.2.length<=3*zT v m) (fun s=>v.length - s.2.1.at_.toNat)
  (P:=fun s=>zL zX s.2.2.2.1+s.2.2.2.2.length+3<=3*zL zg v) ⟨a0,ha0,rfl,Ya _⟩ (fun s ⟨m,h1,e,h2⟩=> ?_) fun x hx=> ?_
 ·obtain⟨s1,s2,s3,ps,cs⟩:=s;have e:s2=_:=e;subst e;dsimp only at h2;refine Has.join (P:=fun j=> ∃m':Nat,j.2.1=⟨v,(m':Int)⟩/\j.2.2.2.1=ps/\j.2.2.2.2.1=cs/\m<=m'/\m'<=v.length/\((m'=m/\j.2.2.2.2.2=[])\/j.2.2.2.2.2.length+16+3*zT v m<=3*zT v m')) ?_ fun j hj=> ?_
  ·refine bPk0 hv (by omega) ?_;refine Has.bif (fun hk=> ?_) fun _=> ?_
   ·have hl:=Sl hk (by decide);have h3:=Jj hl;have h4:=Vn (yf v m).text;refine bLow (tl m) (Has.some ?_);dsimp only;rw[at1 hv (n:=m) (by omega)];have key:(lowS (yf v m).text).length+16+3*zT v m<=3*zT v (m+1):=by omega
    exact⟨m+1,rfl,rfl,rfl,by omega,hl, .inr key⟩
   ·refine bBy hv (by omega) ?_ fun hl=> ?_
    ·exact Has.bif (fun h=>nomatch h) fun _=>Has.some ⟨m,rfl,rfl,rfl,Ra _,h1, .inl ⟨rfl,rfl⟩⟩
    ·have h3:=Jj hl;exact Has.bif (fun _=>Has.some ⟨m+1,rfl,rfl,rfl,by omega,hl, .inr (by show 1+16+3*zT v m<=3*zT v (m+1);omega)⟩) fun h=>nomatch h
  obtain⟨j1,j2,j3,j4,j5,t⟩:=j;obtain⟨m1,e1,e2,e3,h3,h4,h5⟩:=hj;have e1:j2=_:=e1;have e2:j4=ps:=e2;have e3:j5=cs:=e3;subst e1 e2 e3;dsimp only at h2 h5 ⊢;refine Has.bind (tX hS (by omega) hz hp h4) fun⟨⟨l,ok⟩,r2⟩ ⟨m2,e,h6,h7,h8⟩=> ?_;have e:r2=_:=e;subst e;dsimp only at h8 ⊢;have hc0:=Rp ⟨t,l⟩;dsimp only at hc0;refine Has.bind (P:=fun b=>ok=true->b=true->t≠[]\/l≠[]) (Has.cond (fun ho=> ?_) fun _ ho=> ?_) fun b hb=> ?_
  ·have ho:ok=true:=by cases ok<;>first|rfl|cases ho
   obtain⟨h9,h10⟩:=h8 ho;have h11:=Si v m2;refine(zCb (c:=⟨t,l⟩) ?_ hp).wk fun b hb _=>hb;rw[hc0];rcases h5 with⟨e,e'⟩|h5
   ·rw[e',Xa];omega
   ·omega
  ·subst ho;cases ‹(!(!true))=false›
  refine Has.bif (fun _=>Has.some fun h=>nomatch h) fun hf=> ?_;have ho:ok=true:=by cases ok<;>first|rfl|cases hf
  subst ho;have hb2:b=true:=by cases b<;>first|rfl|cases hf
  obtain⟨h9,h10⟩:=h8 rfl;have hne:=hb rfl hb2;have h11:=Si v m2;have h12:=Si v m;have hps:=Ag Dx j4
  -- the compound's size
  have hc1:zA (zX ⟨t,l⟩)+4+3*zT v m<=3*zT v m2:=by
   rw[hc0];rcases h5 with⟨e,e'⟩|h5
   ·subst e;rw[e',Xa];have:1<=l.length:=by
     rcases hne with h|h
     ·exact absurd e' h
     ·exact Vg.2 h
    omega
   ·omega
  have hm:m<m2:=by
   rcases Wd m m2 with h|h
   ·exact h
   ·have:=Iz (v:=v) h;omega
  have hz2:zL zX (j4++[⟨t,l⟩])=zL zX j4+zA (zX ⟨t,l⟩):=by rw[bi,ZK,Gh,Jc]
  refine Has.need (qg (by unfold big at *; omega)) ?_;refine bSp hv (by omega) fun sp m3 h13 h14=> ?_;have hm3:=Iz (v:=v) h13;have hm3':=Si v m3;refine Has.eqb (xz ..) ?_;refine Has.bif (fun _=>Has.some ?_) fun _=> ?_
  ·show zL zX (j4++[⟨t,l⟩])+j5.length+3<=3*zL zg v;omega
  refine bCo hv (by omega) fun c m4 hc2 hc3 h15 h16=> ?_;have hm4:=Iz (v:=v) h15;have hm4':=Si v m4;refine Has.join (P:=fun j=>0<=j.1/\j.1<=255/\j.2.2.2.1=j4++[⟨t,l⟩]/\j.2.2.2.2=j5) ?_ fun j hj=> ?_
  ·exact Has.bif (fun _=>Has.some fun h=>nomatch h) fun _=>Has.bif (fun _=>Has.some ⟨(by decide:(0:Int)<=1),(by decide:(1:Int)<=255),rfl,rfl⟩) fun _=>Has.some ⟨hc2,hc3,rfl,rfl⟩
  obtain⟨k1,k2,k3,k4,k5⟩:=j;obtain⟨g1,g2,g3,g4⟩:=hj;dsimp only at g1 g2 g3 g4;have g4:k5=j5:=g4;subst g3 g4;refine Has.bind (P:=fun _=>True) ?_ fun by_ _=> ?_
  ·unfold Ef;dsimp only;rw[Ha g1,Ha g2];exact Has.some trivial
  refine Has.need (qg (by dsimp only;unfold big at *; omega)) ?_;refine Has.some ⟨⟨m4,by omega,rfl,?_⟩,?_⟩
  ·show zL zX (j4++[⟨t,l⟩])+(k5++[by_]).length<=3*zT v m4;rw[La,Ea,Xa];omega
  ·show v.length - (m4:Int).toNat<v.length - (m:Int).toNat;omega
 ·refine Has.some fun _=> ?_;rw[yo];dsimp only at hx ⊢;omega
theorem CX{v:List za}(hz:zL zg v<=N){p:zf}(hp:Yi p)(a b:Bool):
  Has (Qw S (v,p,a,b)) fun y=>zL zy y.1<=3*zL zg v:=by
 have hl:=zLen v;have hb:big=4194304:=rfl;have e1:w64 ((v.length:Int)+1)=((v.length+1:Nat):Int):=Bi (by omega);have sub: ∀{f i:Nat},f<=i->zT v f+zL zg (List.drop f (List.take i v))=zT v i:=fun {f i} h=>by unfold zT;rw[<-bi,show List.take f v=List.take f (List.take i v) by rw[List.take_take,Nat.min_eq_left h],Yf]
 unfold Qw;refine Has.loop (fun s=> ∃f i:Nat,f<=i/\i<=v.length+1/\s.1=((f:Int),(i:Int))/\zL zy s.2<=3*zT v f) (fun s=>v.length+1 - s.1.2.toNat) (P:=fun s=>zL zy s<=3*zL zg v)
  ⟨0,0,by omega,by omega,rfl,Ya _⟩ (fun s ⟨f,i,h1,h2,e,h3⟩=> ?_) fun x hx=>Has.some hx
 obtain⟨s1,out⟩:=s;have e:s1=_:=e;subst e;dsimp only at h3 ⊢;have hzf:=Si v f;refine Has.bif (fun hi=> ?_) fun _=>Has.some (by show zL zy out<=_;omega);have hi:i<=v.length:=by rw[e1]at hi;have:=Sb hi;omega
 refine Has.join (P:=fun j=> ∃f':Nat,f'<=i+1/\j.1=((f':Int),(i:Int))/\zL zy j.2<=3*zT v f') ?_ fun j hj=> ?_
 ·refine Has.bind (P:=fun _=>True) (Has.cond (fun h=> ?_) fun _=>trivial) fun y _=> ?_
  ·have:i<v.length:=by have:=Sb h;omega
   rw[Zy this];exact Has.some trivial
  refine Has.bif (fun _=>Has.some ⟨f,by omega,rfl,h3⟩) fun _=> ?_;have hlen:=Ag sw out;refine Has.join (P:=fun l=>zL zy l<=3*zT v i) ?_ fun l hl2=> ?_
  ·refine Has.need (by simp only[Fa,Va];omega) ?_;rw[Lb,Lb];have h4:=sub h1;have h5:=Si v i;refine Has.bind (aY hS hN (v:=List.drop f (List.take i v)) (by omega) hp a) fun y hy=> ?_;refine Has.bif (fun hk=> ?_) fun _=>Has.bif (fun _=>Has.some (Ya _)) fun _=>Has.some (by show zL zy out<=_;omega);refine Has.need (qg (by omega)) (Has.some ?_);have h6:=hy hk;show zL zy (out++[_])<=_;rw[FP,bi,ZK,Gh];omega
  ·refine Has.some ⟨i+1,Ra _,by dsimp only;rw[Bi (by omega)],?_⟩;have h6:=Iz (v:=v) (Nat.le_succ i);show zL zy l<=_;exact Ab hl2 (Nat.mul_le_mul_left 3 h6)
 ·obtain⟨j1,j2⟩:=j;obtain⟨f',h4,e,h5⟩:=hj;have e:j1=_:=e;subst e;have e2:w64 ((i:Int)+1)=((i+1:Nat):Int):=Bi (by omega);refine Has.some ⟨⟨f',i+1,by omega,by omega,by dsimp only;rw[e2],h5⟩,?_⟩;show v.length+1 - (w64 ((i:Int)+1)).toNat<v.length+1 - (i:Int).toNat;rw[e2];omega
end
theorem zAE{v:List za}(hz:4*zL zg v+8<=big){p:zf}(hp:Yi p)(a b:Bool):Has (zD (v,p,a,b)) fun y=>zL zy y.1<=3*zL zg v:=
 LA zj6 (fun z=>zL zg z.1) (fun z=>4*zL zg z.1+8<=big/\Yi z.2.1) (fun z y=>zL zy y.1<=3*zL zg z.1)
  (fun S ⟨v,p,a,b⟩ ⟨h1,h2⟩ hS=>CX (N:=zL zg v) (fun l p a b hp hl=>hS (l,p,a,b) ⟨by dsimp only at *; omega,hp⟩ hl) h1 (Ra _) h2 a b) ⟨hz,hp⟩
theorem zA7{v:List za}(hz:4*zL zg v+8<=big):Has (YB v) fun y=>zL zy y.1<=3*zL zg v:=by unfold YB;refine Has.eqb (Dp (KT _ (by omega))) ?_;refine Has.bif (fun _=>Has.some (Ya _)) fun _=> ?_;refine Has.bind (zAE hz ⟨0,false,by decide,rfl⟩ _ _) fun y hy=> ?_;refine Has.bif (fun _=>Has.some (Ya _)) fun _=> ?_;refine Has.eqb (K9 (by omega)) ?_;exact Has.bif (fun _=>Has.some (Ya _)) fun _=>Has.some hy
def szP:List (List za)->Nat
 |[]=>0
 |l::r=>1+szL l+szP r
theorem LU{v:List za}: ∀{l:List (List za)},v∈l->szL v<=szP l
 |[],h=>by cases h
 |x::l,h=>by
  rw[szP];rcases ja.1 h with rfl|h
  ·omega
  ·have:=LU h;omega
theorem MU: ∀(l:List (List za)),l.length<=szP l
 |[]=>Ra _
 |v::r=>by rw[szP,Ea];have:=MU r;omega
theorem iV{R:Type}(x:Option R):both x x=x:=by unfold both;rw[Ka rfl]
theorem zB6{l:List za}(h:szL l<=big):XD l=some l:=by
 unfold XD;have hlen:=Rh l;unfold big at h;have hap:Zw 0 l.length 80=true:=qg (by omega);cases l with
 |nil=>simp only[hap,iV,ZF,List.isEmpty_nil,Da]
 |cons v r=>simp only[hap,ZF,List.isEmpty_cons,Ca]
theorem WF{l:List za}(h:szL l<=big):Rj l=some l:=by
 refine Pj (fun l=>szL l) (fun l=>szL l<=big) (fun l=>l) (fun S l hl hS=> ?_) h;unfold wB;have hlen:=Rh l;simp only[ze,zB6 hl,Aa];refine(Xo l (fun i (a:List za)=>((i:Int),a)) (fun v a=>some (.again a)) (fun a=>some (.out a)) (fun i a=>a=l) (a:=l) rfl rfl (fun i a hi hI=> ?_) (fun a hI=> ?_) (r:= .out l) ?_)
 ·subst hI;have hsz:=Jm (Pb hi);have hv2:=Ii a[i];refine⟨?_,fun a' ha=>by cases ha;rfl⟩;have h1:S a[i].list=some a[i].list:=hS a[i].list (by omega) (by omega);have h2:decide ((0:Int)<=(i:Int))=true:=Ha (by omega);have h3:a[i]? =some a[i]:=Sa hi;have h4:a.set i ⟨a[i].token,a[i].list⟩=a:=by
   have:(⟨a[i].token,a[i].list⟩:za)=a[i]:=by cases a[i];rfl
   rw[this,List.set_getElem_self]
  simp only[qa hi,h2,Bool.and_self,Da,ZF,Lb,h3,Aa,h1,h4,ZI hi (by omega),Cc]
 ·subst hI;simp only[ZU,Ca];rfl
 ·rw[Ap (fun a v=>a) (fun v a=>rfl)];congr 2;clear hl hS hlen h;generalize l=b at*;have: ∀(m b:List za),m.foldl (fun a _=>a) b=b:=by
   intro m
   induction m with
   |nil=>intro b;rfl
   |cons v m ih=>intro b;exact ih b
  exact this _ _
theorem fD{l:List za}{i:Nat}(h:i<l.length):Ex ((i:Int),l)=some (isSp l[i]):=by unfold Ex;simp only[ze,Zy h,Aa];rfl
theorem GH{l:List za}(h:szL l<=big):Us l=some (if errS l=0 then(trimS l,0)else([],errS l)):=by
 unfold Us;have hlen:=Rh l;simp only[ze,Dp h,Aa];by_cases h1:errS l=0
 ·rw[Ka h1];have hne:(errS l != 0)=false:=by simp[h1]
  simp only[hne,Ca];have hdl:=List.Sublist.length_le (jb isSp (l:=l));have hdd:=yz isSp l;refine(qY (r:= .out ((l.length - (l.dropWhile isSp).length:Nat):Int)) (Qq (fun s=> ∃k:Nat,s=(k:Int)/\k<=l.length/\(l.drop k).dropWhile isSp=l.dropWhile isSp) (fun s=>l.length - s.toNat) _ (fun s hs=> ?_) ⟨0,rfl,Ya _,rfl⟩)).trans ?_
  ·obtain⟨k,rfl,hk,he⟩:=hs;by_cases hlt:k<l.length
   ·rw[Cb hlt,Nc]at he;have hw:=ZI hlt (by unfold big at h ⊢;omega);cases hv:isSp l[k]with
    |true=> rw[Ka hv]at he;refine .inl ⟨((k+1:Nat):Int),?_,⟨k+1,rfl,hlt,he⟩,by omega⟩;simp only[qa hlt,Zl,fD hlt,Aa,hv,Da,hw]
    |false=>
     rw[Ia (by rw[hv];simp)]at he;refine .inr (.inl ⟨(k:Int),?_,?_⟩)
     ·simp only[qa hlt,Zl,fD hlt,Aa,hv,Da,Ca]
     ·rw[<-he];congr 1;simp;omega
   ·have hkk:k=l.length:=by omega
    subst hkk;rw[List.drop_length]at he;refine .inr (.inl ⟨(l.length:Int),?_,?_⟩)
    ·simp only[ZU,qK,Aa,Ca]
    ·rw[<-he];simp
  ·rw[znk];generalize hf:l.length - (l.dropWhile isSp).length=f at hdd;have hfl:f<=l.length:=by omega
   generalize l.dropWhile isSp=d at hdd;subst hdd;refine(qY (r:= .out ((f+(trimB (l.drop f)).length:Nat):Int)) (Qq (fun s=> ∃m:Nat,s=(m:Int)/\f<=m/\m<=l.length/\trimB ((l.take m).drop f)=trimB (l.drop f)) (fun s=>s.toNat) _ (fun s hs=> ?_) ⟨l.length,rfl,hfl,Ra _,by rw[Df]⟩)).trans ?_
   ·obtain⟨m,rfl,hm1,hm2,he⟩:=hs;by_cases hlt:f<m
    ·have hm:m - 1<l.length:=by omega
     have hsn:(l.take m).drop f=(l.take (m - 1)).drop f++[l[m - 1]]:=by
      have:l.take m=l.take (m - 1)++[l[m - 1]]:=by
       have:=Kc hm
       rwa [show m - 1+1=m by omega]at this
      rw[this,Gg (by rw[Tc];omega)]
     rw[hsn,VB]at he;have h2:decide ((f:Int)<(m:Int))=true:=Ha (by omega);have hw:w64 ((m:Int) - 1)=((m - 1:Nat):Int):=by rw[w64,Qf (by omega) (by unfold big at h;omega)];omega
     cases hv:isSp l[m - 1]with
     |true=> rw[Ka hv]at he;refine .inl ⟨((m - 1:Nat):Int),?_,⟨m - 1,rfl,by omega,by omega,he⟩,by omega⟩;simp only[h2,Zl,hw,fD hm,Aa,hv,Da]
     |false=>
      rw[Ia (by rw[hv];simp)]at he;refine .inr (.inl ⟨(m:Int),?_,?_⟩)
      ·simp only[h2,Zl,hw,fD hm,Aa,hv,Da,Ca]
      ·rw[<-he];congr 1;simp;omega
    ·have hmm:m=f:=by omega
     subst hmm;have h2:decide ((m:Int)<(m:Int))=false:=Ta (by omega);refine .inr (.inl ⟨(m:Int),?_,?_⟩)
     ·simp only[h2,qK,Aa,Ca]
     ·rw[List.drop_eq_nil_of_le (by rw[Tc];omega),zBC]at he;rw[<-he];simp
   ·rw[znk];have htl:=List.Sublist.length_le (yj (l.drop f));rw[Vb]at htl;have hcut:List.drop f (List.take (f+(trimB (l.drop f)).length) l)=trimB (l.drop f):=by
     rw[List.drop_take];have: ∀d:List za,d.take (trimB d).length=trimB d:=by intro d;unfold trimB;rw[List.length_reverse];have h3:=yz isSp d.reverse;have h4:=List.Sublist.length_le (jb isSp (l:=d.reverse));rw[List.length_reverse]at h3 h4;rw[<-h3,List.drop_reverse,List.reverse_reverse];congr 1;simp
     have e:=this (l.drop f);rw[show f+(trimB (l.drop f)).length - f=(trimB (l.drop f)).length by omega];exact e
    have hneed:(decide ((0:Int)<=(f:Int))&&(decide ((f:Int)<=((f+(trimB (l.drop f)).length:Nat):Int))&&(decide (((f+(trimB (l.drop f)).length:Nat):Int)<=((f+(trimB (l.drop f)).length:Nat):Int))&&decide (((f+(trimB (l.drop f)).length:Nat):Int)<=(l.length:Int))))&&decide True)=true:=by simp only[Fa,Va];refine⟨?_,trivial⟩;omega
    have hts:trimS l=trimB (l.drop f):=by unfold trimS;rw[<-yz isSp l,hf]
    simp only[hneed,ZF,Lb,hcut,WF (Ab (Dl ((yj _).trans (List.drop_sublist _ _))) h),Aa,hts]
 ·rw[Ia h1];have hne:(errS l != 0)=true:=by simp[h1]
  simp only[hne,Da]
def Xf(k:Int)(a:List (List za)×List za)(v:za):List (List za)×List za:=
 if v.token.kind==k then(a.1++[a.2],[])else(a.1,a.2++[v])
def Pf(k:Int)(l:List za):List (List za)×List za:=l.foldl (Xf k) ([],[])
def Tf(k:Int)(l:List za):List (List za):=(Pf k l).1++[(Pf k l).2]
theorem kW{k:Int}{l:List za}{i:Nat}(h:i<l.length):Pf k (l.take (i+1))=Xf k (Pf k (l.take i)) l[i]:=by unfold Pf;rw[Kc h,List.foldl_append];rfl
theorem tO(a b:List (List za)):szP (a++b)=szP a+szP b:=by
 induction a with
 |nil=>simp[szP]
 |cons x a ih=>simp only[Db,szP,ih];omega
theorem XH(a b:List za):szL (a++b)=szL a+szL b:=by
 induction a with
 |nil=>simp[szL]
 |cons x a ih=>simp only[Db,szL,ih];omega
theorem Fw(k:Int): ∀(l:List za) (a:List (List za)×List za),szP (l.foldl (Xf k) a).1+szL (l.foldl (Xf k) a).2<=szP a.1+szL a.2+szL l/\(l.foldl (Xf k) a).1.length<=a.1.length+l.length/\(l.foldl (Xf k) a).2.length<=a.2.length+l.length
 |[],a=>by simp[szL]
 |v::l,a=>by
  rw[Ae];obtain⟨h1,h2,h3⟩:=Fw k l (Xf k a v);have hv:=Ii v;have:szP (Xf k a v).1+szL (Xf k a v).2<=szP a.1+szL a.2+szV v/\(Xf k a v).1.length<=a.1.length+1/\(Xf k a v).2.length<=a.2.length+1:=by
   unfold Xf;split
   ·simp only[tO,szP,szL,La,Ea,Xa];omega
   ·simp only[XH,szL,La,Ea,Xa];omega
  rw[szL,Ea];omega
theorem zCg(k:Int)(l:List za):szP (Tf k l)<=szL l+1:=by obtain⟨h1,_,_⟩:=Fw k l ([],[]);unfold Tf Pf;rw[tO,szP,szP];have e1:szP ([]:List (List za))=0:=rfl;have e2:szL ([]:List za)=0:=rfl;simp only[e1,e2]at h1;omega
theorem sH{l:List za}{k:Int}(h:szL l<=big):Jt (l,k)=some (if errS l=0 then(if k<1\/24<k then([],2)else(Tf k l,0))else([],errS l)):=by
 unfold Jt;have hlen:=Rh l;simp only[ze,Dp h,Aa];by_cases h1:errS l=0
 ·have hne:(errS l != 0)=false:=by simp[h1]
  rw[Ka h1];simp only[hne,Ca,tK];by_cases h2:k<1\/24<k
  ·have:(decide (k<1)||decide (k>24))=true:=by simpa using h2
   rw[Ka h2,this];rfl
  ·have:(decide (k<1)||decide (k>24))=false:=by rw[Ve];exact⟨Ta (by omega),Ta (by omega)⟩
   rw[Ia h2,this];simp only[Ca];refine(qY (r:= .out (((l.length - (Pf k l).2.length:Nat):Int),(Pf k l).1)) (Qq (fun s=> ∃i from_:Nat,s=(((from_:Int),(i:Int)),(Pf k (l.take i)).1)/\from_<=i/\i<=l.length/\(Pf k (l.take i)).2=(l.take i).drop from_) (fun s=>l.length - s.1.2.toNat) _ (fun s hs=> ?_) ⟨0,0,by simp[Pf],Ra _,Ya _,by simp[Pf]⟩)).trans ?_
   ·obtain⟨i,fr,rfl,hfi,hil,he⟩:=hs;by_cases hi:i<l.length
    ·refine .inl ?_;have hw:=ZI hi (by unfold big at h ⊢;omega);have hpt:=kW (k:=k) hi;have htk:l.take (i+1)=l.take i++[l[i]]:=Kc hi;unfold Xf at hpt;simp only[qa hi,Da,Zy hi,Aa];cases hv:(l[i].token.kind==k)with
     |true=>
      rw[Ka hv]at hpt;have hn:(decide ((0:Int)<=(fr:Int))&&(decide ((fr:Int)<=(i:Int))&&(decide ((i:Int)<=(i:Int))&&decide ((i:Int)<=(l.length:Int))))&&decide True)=true:=by simp only[Fa,Va];refine⟨?_,trivial⟩;omega
      have hsz:szL (List.drop fr (List.take i l))<=big:=Ab (Dl ((List.drop_sublist _ _).trans (List.take_sublist _ _))) h;have hpl:=(Fw k (l.take i) ([],[])).2.1;have hap:Zw (Pf k (l.take i)).1.length 1 24=true:=qg (by
       unfold Pf;have:=List.length_take_le i l;unfold big at h;simp only[Xa]at hpl;omega)
      refine⟨((((i+1:Nat):Int),((i+1:Nat):Int)),(Pf k (l.take (i+1))).1),?_,⟨i+1,i+1,rfl,Ra _,hi,?_⟩,?_⟩
      ·simp only[Da,hn,ZF,Lb,WF hsz,Aa,hap,hw,zJ,hpt,he]
      ·rw[hpt];simp
      ·simp only[Lb];omega
     |false=>
      rw[Ia (by rw[hv];simp)]at hpt;refine⟨(((fr:Int),((i+1:Nat):Int)),(Pf k (l.take (i+1))).1),?_,⟨i+1,fr,rfl,by omega,hi,?_⟩,?_⟩
      ·simp only[Ca,zJ,hw,hpt]
      ·rw[hpt,htk,he,Gg (by rw[Tc];omega)]
      ·simp only[Lb];omega
    ·have hil:i=l.length:=by omega
     subst hil;rw[Df]at he ⊢;refine .inr (.inl ⟨((fr:Int),(Pf k l).1),by simp only[ZU,Ca],?_⟩);rw[he,Vb];congr 2;omega
   ·rw[znk]
    -- the last part is behind
    have key: ∀(m:List za) (a:List (List za)×List za) (p:List za),a.2<:+p->(m.foldl (Xf k) a).2<:+p++m:=by
     intro m
     induction m with
     |nil=>intro a p h;simpa using h
     |cons v m ih=>
      intro a p h;rw[Ae];have:(Xf k a v).2<:+p++[v]:=by
       unfold Xf;split
       ·exact List.nil_suffix
       ·obtain⟨q,hq⟩:=h;exact⟨q,by rw[<-hq,Ib]⟩
      have:=ih _ _ this
      rwa [Ib]at this
    have hsuf:=key l ([],[]) [] (Ce _);rw[Mc]at hsuf;have hdr:List.drop (l.length - (Pf k l).2.length) l=(Pf k l).2:=by unfold Pf;exact(List.suffix_iff_eq_drop.1 hsuf).symm
    have hsz:szL (Pf k l).2<=big:=by have:=Dl hsuf.sublist;unfold Pf;omega
    have hle:(Pf k l).2.length<=l.length:=by unfold Pf;exact hsuf.length_le
    have hn:(decide ((0:Int)<=((l.length - (Pf k l).2.length:Nat):Int))&&decide (((l.length - (Pf k l).2.length:Nat):Int)<=(l.length:Int)))=true:=by simp only[Fa,Va];omega
    have hpl:=(Fw k l ([],[])).2.1;have hap:Zw (Pf k l).1.length 1 24=true:=qg (by
     unfold Pf;unfold big at h;simp only[Xa]at hpl;omega)
    simp only[hn,ZF,Lb,hdr,WF hsz,Aa,hap];rfl
 ·have h2:(errS l != 0)=true:=We.2 h1;rw[Ia h1];simp only[h2,Da]
inductive Cuts (k:Int):List za->List (List za)->Prop
 |one (p:List za) (h: ∀x∈p,(x.token.kind==k)=false):Cuts k p [p]
 |more (p:List za) (s:za) (v:List za) (ps:List (List za)) (h: ∀x∈p,(x.token.kind==k)=false) (hs:(s.token.kind==k)=true) (hc:Cuts k v ps):Cuts k (p++s::v) (p::ps)
theorem wO(d:List za): ∃r,d=trimB d++r/\(∀x∈r,isSp x=true)/\(trimB d=[]\/ ∃t v,trimB d=t++[v]/\isSp v=false):=by
 induction hn:d.length generalizing d with
 |zero=>
  obtain rfl:=Mf.1 hn;exact⟨[],rfl,fun x hx=>(by cases hx), .inl rfl⟩
 |succ n ih=>
  rcases Vt d with rfl|⟨t,v,rfl⟩
  ·cases hn
  ·rw[VB];cases hv:isSp v with
   |true=>
    rw[Ka rfl];obtain⟨r,h1,h2,h3⟩:=ih t (by rw[La]at hn;simpa using hn);refine⟨r++[v],by rw[<-Ib,<-h1],fun x hx=> ?_,h3⟩;rcases Ic.1 hx with hx|hx
    ·exact h2 x hx
    ·rw[Oc.1 hx];exact hv
   |false=> rw[Ia (by decide)];exact⟨[],(Ub _).symm,fun x hx=>(by cases hx), .inr ⟨t,v,rfl,hv⟩⟩
theorem dH: ∀(v:List za),∃a,v=a++v.dropWhile isSp/\(∀x∈a,isSp x=true)/\ ∀x b,v.dropWhile isSp=x::b->isSp x=false
 |[]=>⟨[],rfl,fun x hx=>(by cases hx),fun x b h=>(by cases h)⟩
 |y::v=>by
  obtain⟨a,h1,h2,h3⟩:=dH v;cases hy:isSp y with
  |true=>
   rw[List.dropWhile_cons_of_pos hy];refine⟨y::a,by rw[Db,<-h1],fun x hx=> ?_,h3⟩;rcases ja.1 hx with rfl|hx
   ·exact hy
   ·exact h2 x hx
  |false=> rw[List.dropWhile_cons_of_neg (by rw[hy];decide)];exact⟨[],rfl,fun x hx=>(by cases hx),fun x b h=>(by cases h;exact hy)⟩
theorem sO(v:List za):(trimS v).Sublist v:=(yj _).trans (jb _)
def jh(l:List za):Prop:= ∀t v,l=t++[v]->isSp v=false
def Li(l:List za):Prop:= ∀a t,l=a::t->isSp a=false
theorem jh.suf{a b:List za}(h:jh (a++b)):jh b:=fun t v e=>h (a++t) v (by rw[e,Ib])
theorem jh.id{l:List za}(h:jh l):trimB l=l:=by
 rcases Vt l with rfl|⟨t,v,rfl⟩
 ·rfl
 ·rw[VB,h t v rfl];rfl
theorem lM(l:List za):jh (trimB l):=by
 obtain⟨r,_,_,h|⟨t,v,h,hv⟩⟩:=wO l
 ·intro t v e;rw[h]at e;simp at e
 ·intro t' v' e;rw[h]at e;have:=xe e rfl;injection this with e1;rw[<-e1];exact hv
theorem Li.pre{a b:List za}(h:Li (a++b)):Li a:=fun x t e=>h x (t++b) (by rw[e];rfl)
theorem Li.id{l:List za}(h:Li l):l.dropWhile isSp=l:=by
 cases l with
 |nil=>rfl
 |cons a t=>rw[Nc,h a t rfl];rfl
theorem zE4(l:List za):Li (l.dropWhile isSp):=by obtain⟨a,_,_,h⟩:=dH l;exact fun x b e=>h x b e
theorem nT(l:List za): ∃a,l=a++l.dropWhile isSp:=by obtain⟨a,h,_⟩:=dH l;exact⟨a,h⟩
theorem kM(l:List za): ∃r,l=trimB l++r:=by obtain⟨r,h,_⟩:=wO l;exact⟨r,h⟩
theorem zDw{l:List za}(h1:Li l)(h2:jh l):trimS l=l:=by unfold trimS;rw[h1.id,h2.id]
theorem left_eq{l:List za}:Gt l=some (l.dropWhile isSp):=by
 unfold Gt Qb;refine(qY (r:= .out (l.dropWhile isSp)) (Qq (fun s=>s.dropWhile isSp=l.dropWhile isSp) (fun s=>s.length) _ (fun s hs=> ?_) rfl)).trans ?_
 ·cases s with
  |nil=>exact .inr (.inl ⟨[],by simp,by rw[<-hs];rfl⟩)
  |cons v t=>
   have h1:decide (((v::t).length:Int)>0)=true:=by rw[jF];simp
   have h2:geti (v::t) 0=some v:=rfl;have h3:decide ((1:Int)<=((v::t).length:Int))=true:=by simp;omega
   rw[Nc]at hs;cases hv:isSp v with
   |true=> rw[hv]at hs;unfold isSp at hv;refine .inl ⟨t,?_,by simpa using hs,by simp⟩;simp only[h1,h2,h3,Zl,ze,Aa,hv,Da,ZF];rfl
   |false=> rw[hv]at hs;unfold isSp at hv;refine .inr (.inl ⟨v::t,?_,by rw[<-hs];rfl⟩);simp only[h1,h2,Zl,ze,Aa,hv,Da,Ca]
 ·rw[znk]
theorem right_eq{d:List za}(hd:szL d<=big):gm d=some (trimB d):=by
 unfold gm Qb;refine(qY (r:= .out (trimB d)) (Qq (fun s=>trimB s=trimB d/\szL s<=big) (fun s=>s.length) _ (fun s hs=> ?_) ⟨rfl,hd⟩)).trans ?_
 ·rcases Vt s with rfl|⟨t,v,rfl⟩
  ·exact .inr (.inl ⟨[],by simp,by rw[<-hs.1];rfl⟩)
  ·have hlen:=Rh (t++[v]);have hl2:(t++[v]).length=t.length+1:=by simp
   have hb:=hs.2;unfold big at hb;have h1:decide (((t++[v]).length:Int)>0)=true:=by rw[jF];simp
   have h4:w64 (((t++[v]).length:Int) - 1)=(t.length:Int):=by rw[w64,Qf (by omega) (by omega)];omega
   have h2:geti (t++[v]) (t.length:Int)=some v:=by rw[Zy (by omega)];simp
   have h3:(decide ((0:Int)<=(t.length:Int))&&decide ((t.length:Int)<=((t++[v]).length:Int)))=true:=by simp;omega
   have hs1:=hs.1;rw[VB]at hs1;cases hv:isSp v with
   |true=> rw[Ka hv]at hs1;unfold isSp at hv;refine .inl ⟨t,?_,⟨hs1,Ab (Dl (jd t [v])) hs.2⟩,by simp⟩;simp only[h1,h4,h2,h3,Zl,ze,Aa,hv,Da,ZF,Lb];simp
   |false=> rw[Ia (by rw[hv];simp)]at hs1;unfold isSp at hv;refine .inr (.inl ⟨t++[v],?_,by rw[<-hs1]⟩);simp only[h1,h4,h2,Zl,ze,Aa,hv,Da,Ca]
 ·rw[znk]
def Aq(v:za):Bool:=v.token.kind==9&&v.token.text==[33]
theorem zEp(v:za):vo v=some (Aq v):=by unfold vo Qb Aq;simp only[ze,Aa];cases v.token.kind==9<;>rfl
def impW:Str:=[105,109,112,111,114,116,97,110,116]
def endV(l:List za):Option (List za×za):=match l.reverse with
 |[]=>none
 |v::t=>some (t.reverse,v)
theorem yG(t:List za)(v:za):endV (t++[v])=some (t,v):=by unfold endV;rw[List.reverse_append];simp
def Hg(v:List za):List za×Bool:=match endV v with
 |none=>(v,false)
 |some (t,z)=>bif !t.isEmpty&&(z.token.kind==1&&lowS z.token.text==impW)then
   (match endV (trimB t)with
   |none=>(v,false)
   |some (u,b)=>bif Aq b then(trimB u,true)else(v,false))
  else(v,false)
theorem iK{t:List za}{v:za}(h:szL (t++[v])<=big):w64 (((t++[v]).length:Int) - 1)=(t.length:Int):=by
 have hlen:=Rh (t++[v]);have hl2:(t++[v]).length=t.length+1:=by simp
 unfold big at h;rw[w64,Qf (by omega) (by omega)];omega
theorem NK(t:List za)(v:za):geti (t++[v]) (t.length:Int)=some v:=by rw[Zy (by simp)];simp
theorem gU(t:List za)(v:za):(decide ((0:Int)<=(t.length:Int))&&decide ((t.length:Int)<=((t++[v]).length:Int)))=true:=by simp;omega
theorem JU(t:List za)(v:za):List.take t.length (t++[v])=t:=by simp
theorem zFi:lowS [105,109,112,111,114,116,97,110,116]=impW:=by decide+kernel
theorem KU{t:List za}{v:za}(h:szL (t++[v])<=big):szL t<=big/\v.token.text.length<=big:=by rw[XH,szL,Ii]at h;omega
theorem BM(t:List za):decide ((t.length:Int)>0)= !t.isEmpty:=by
 cases t with
 |nil=>rfl
 |cons a t=>exact Ha (by simp only[Ea];omega)
abbrev MK:=LX (List za×(Str×Bool)×(Str×Bool)) (Zh×Bool)
theorem zAa{v:List za}{nm:Str}(hv:szL v<=big):(
  ze (zK (decide (w64 ((v.length:Int) - 1)>0)) (geti v (w64 ((v.length:Int) - 1))) (default:za)) fun y13=>
  ze (zK (decide (w64 ((v.length:Int) - 1)>0)) (Qb ((⟨y13.token,y13.list⟩:za),1)) (default:Bool)) fun y14=>
  ze (zK (bif decide (w64 ((v.length:Int) - 1)>0)then y14 else false) (geti v (w64 ((v.length:Int) - 1))) (default:za)) fun y15=>
  ze (zK (bif decide (w64 ((v.length:Int) - 1)>0)then y14 else false) (ZZ (y15.token.text,[105,109,112,111,114,116,97,110,116])) (default:Bool)) fun y16=>
  bif bif bif decide (w64 ((v.length:Int) - 1)>0)then y14 else false then y16 else false then
   need (decide (0<=w64 ((v.length:Int) - 1))&&decide (w64 ((v.length:Int) - 1)<=(v.length:Int)))<|
   ze (gm (List.take (w64 ((v.length:Int) - 1)).toNat v)) fun y17=>
   ze (zK (decide ((y17.length:Int)>0)) (geti y17 (w64 ((y17.length:Int) - 1))) (default:za)) fun y18=>
   ze (zK (decide ((y17.length:Int)>0)) (vo (⟨y18.token,y18.list⟩:za)) (default:Bool)) fun y19=>
   bif bif decide ((y17.length:Int)>0)then y19 else false then
    need (decide (0<=w64 ((y17.length:Int) - 1))&&decide (w64 ((y17.length:Int) - 1)<=(y17.length:Int)))<|
    ze (gm (List.take (w64 ((y17.length:Int) - 1)).toNat y17)) fun y20=>
    some (LX.out (y20,(([]:Str),false),(nm,true)))
   else
    some (LX.out (v,(([]:Str),false),(nm,false)))
  else
   some (LX.out (v,(([]:Str),false),(nm,false))))=(some (LX.out ((Hg v).1,(([]:Str),false),(nm,(Hg v).2))):Option MK):=by
 rcases Vt v with rfl|⟨t,z,rfl⟩
 ·rfl
 ·obtain⟨ht,hz⟩:=KU hv;unfold Hg;rw[yG];simp only[iK hv,BM];cases he:t.isEmpty with
  |true=>simp only[Eb,qK,ze,Aa,Ca,Ld]
  |false=>
   simp only[Ua,Zl,NK,Qb,ze,Aa,Da,Kb];cases hk:z.token.kind==1 with
   |false=>simp only[qK,Aa,Ca,Ld]
   |true=>
    simp only[Zl,Aa,Xm hz (show([105,109,112,111,114,116,97,110,116]:Str).length<=big by decide),zFi,Da,Kb];cases ha:lowS z.token.text==impW with
    |false=>simp only[Ca]
    |true=>
     simp only[Da,gU,ZF,Lb,JU,right_eq ht,Aa,BM];have hw:szL (trimB t)<=big:=Ab (Dl (yj t)) ht;obtain⟨w,hwd⟩: ∃w,trimB t=w:=⟨_,rfl⟩;rw[hwd]at hw;simp only[hwd];rcases Vt w with rfl|⟨u,b,rfl⟩
     ·rfl
     ·have hne:(u++[b]).isEmpty=false:=by cases u<;>rfl
      rw[yG];simp only[hne,Ua,Zl,iK hw,NK,Aa,Et,zEp,Da];cases hb:Aq b with
      |false=>simp only[Ca]
      |true=>simp only[Da,gU,ZF,Lb,JU,right_eq (KU hw).1,Aa]
def nmD(s:Str):Str:=bif List.isPrefixOf [45,45] s then s else lowS s
def noD:Zh×Bool:=(⟨[],[],false⟩,false)
def oneS(x:List za):Zh×Bool:=match trimS x with
 |[]=>noD
 |n::r=>bif n.token.kind==1 then
   (match r.dropWhile isSp with
   |[]=>noD
   |c::q=>bif c.token.kind==16 then
     (bif Eh ⟨nmD n.token.text,(Hg (q.dropWhile isSp)).1,(Hg (q.dropWhile isSp)).2⟩then(⟨nmD n.token.text,(Hg (q.dropWhile isSp)).1,(Hg (q.dropWhile isSp)).2⟩,true)else noD)
    else noD)
  else noD
theorem JB{v:List za}{t:List za}{z:za}(h:endV v=some (t,z)):v=t++[z]:=by
 rcases Vt v with rfl|⟨t',z',rfl⟩
 ·cases h
 ·rw[yG]at h;cases h;rfl
theorem zFp{v:List za}(h1:Li v)(h2:jh v):Li (Hg v).1/\jh (Hg v).1/\(Hg v).1.Sublist v:=by
 unfold Hg;split
 ·exact⟨h1,h2,Ee _⟩
 ·rename_i t z he;have hv:=JB he;cases !t.isEmpty&&(z.token.kind==1&&lowS z.token.text==impW)with
  |false=>exact⟨h1,h2,Ee _⟩
  |true=>
   rw[Da];split
   ·exact⟨h1,h2,Ee _⟩
   ·rename_i u b hb;have hw:=JB hb;cases Aq b with
    |false=>exact⟨h1,h2,Ee _⟩
    |true=>
     rw[Da];have hht:Li t:=by rw[hv]at h1;exact h1.pre
     have hhw:Li (trimB t):=by obtain⟨r,hr⟩:=kM t;rw[hr]at hht;exact hht.pre
     have hhu:Li u:=by rw[hw]at hhw;exact hhw.pre
     refine⟨?_,lM u,?_⟩
     ·obtain⟨r,hr⟩:=kM u;rw[hr]at hhu;exact hhu.pre
     ·refine(yj u).trans ((jd u [b]).trans ?_);rw[<-hw];refine(yj t).trans ?_;rw[hv];exact jd t [z]
theorem zFj(s:Str):(lowS s).length=s.length:=by unfold lowS;simp
theorem WT(s:Str):(nmD s).length=s.length:=by
 unfold nmD;cases List.isPrefixOf [45,45] s
 ·exact zFj s
 ·rfl
theorem GL(n:za)(r:List za):(((n::r).length:Int)==0)=false:=Ga.2 (by simp only[Ea];omega)
theorem FU(n:za)(r:List za):decide ((1:Int)<=((n::r).length:Int))=true:=Ha (by simp only[Ea];omega)
theorem ML(n:za)(r:List za):geti (n::r) 0=some n:=rfl
theorem YX{x:List za}(h:szL x<=big){n:za}{r:List za}(hy:trimS x=n::r):n.token.text.length<=big/\szL r<=big/\jh r/\
  ∀{c:za} {q:List za},r.dropWhile isSp=c::q->szL (q.dropWhile isSp)<=big/\Li (q.dropWhile isSp)/\jh (q.dropWhile isSp):=by
 have hsz:=zDx x;have he:jh (trimS x):=lM _;rw[hy]at hsz he;rw[szL,Ii]at hsz;have her:jh r:=he.suf (a:=[n]);refine⟨by omega,by omega,her,fun {c q} hq=> ?_⟩;obtain⟨a,ha⟩:=nT r;rw[hq]at ha;obtain⟨b,hb⟩:=nT q;refine⟨?_,zE4 q,?_⟩
 ·have h1:=Dl (jb isSp (l:=q));rw[ha,XH,szL]at hsz;omega
 ·rw[ha,hb]at her;exact jh.suf (a:=a++c::b) (by rw[Ib];exact her)
theorem bP{x:List za}(h:szL x<=big):Ow x=some (oneS x):=by
 have hdw:szL (x.dropWhile isSp)<=big:=Ab (Dl (jb _)) h;unfold Ow oneS;simp only[left_eq,right_eq hdw,ze,Aa,show trimB (x.dropWhile isSp)=trimS x from rfl];cases hy:trimS x with
 |nil=>rfl
 |cons n r=>
  obtain⟨hn,hr,_,hp⟩:=YX h hy;simp only[GL,Ua,Zl,ML,Aa,Qb,Ca];cases hk:n.token.kind==1 with
  |false=>simp only[Ua,Da,Ca];rfl
  |true=>
   simp only[Eb,Ca,Da];have hj:((strings_HasPrefix (n.token.text,[45,45])).bind fun y6=>bif !y6 then(ZL n.token.text).bind fun y7=>some (LX.out (n::r,(([]:Str),false),(y7,false)))else some (LX.out (n::r,([],false),(n.token.text,false))))=(some (LX.out (n::r,([],false),(nmD n.token.text,false))):Option MK):=by rw[ym,Aa,Wm hn];unfold nmD;cases List.isPrefixOf [45,45] n.token.text<;>rfl
   rw[hj,zJ];simp only[FU,ZF,show List.drop 1 (n::r)=r from rfl];cases hq:r.dropWhile isSp with
   |nil=>rfl
   |cons c q=>
    obtain⟨hv,hh,he⟩:=hp hq;simp only[GL,Ua,Zl,ML,Aa,Ca];cases hc:c.token.kind==16 with
    |false=>simp only[Ua,Da,Ca];rfl
    |true=>
     simp only[Eb,Ca,Da,FU,ZF,show List.drop 1 (c::q)=q from rfl];obtain⟨v,hvd⟩: ∃v,q.dropWhile isSp=v:=⟨_,rfl⟩;rw[hvd]at hv hh he;simp only[hvd];have hm:=zAa (nm:=nmD n.token.text) hv;simp only[ze,Qb]at hm;rw[hm,zJ];obtain⟨h1,h2,h3⟩:=zFp hh he;obtain⟨w,hw⟩: ∃w,Hg v=w:=⟨_,rfl⟩;rw[hw]at h1 h2 h3;simp only[hw];have hws:szL w.1<=big:=Ab (Dl h3) hv;rw[GH hws,Aa];by_cases he0:errS w.1=0
     ·rw[Ka he0,zDw h1 h2];simp only[show((0:Int) != 0)=false from rfl,Ua,Zl,Ca];rw[OQ (d:=⟨nmD n.token.text,w.1,w.2⟩) hws (by rw[WT];exact hn),Aa];cases Eh ⟨nmD n.token.text,w.1,w.2⟩<;>rfl
     ·have he1:(errS w.1 != 0)=true:=We.2 he0;have he2:Eh ⟨nmD n.token.text,w.1,w.2⟩=false:=by unfold Eh;simp only[show(errS w.1==0)=false from Ga.2 he0,Ld,Md]
      rw[Ia he0,he2];simp only[he1,Eb,qK,Aa,Da,Ca];rfl
--< pulled
--p aG
theorem aG(x:za):1<=zA (zg x):=by have:=Q8 x;omega
--p sp
abbrev sp(l:List za):List za:=l.dropWhile isSp
--p JS
theorem JS:sp []=[]:=rfl
--p Cv
theorem Cv(v:za)(l:List za):sp (v::l)=if isSp v then sp l else v::l:=by unfold sp;rw[Nc]
--p Q6
theorem Q6(l:List za):(sp l).Sublist l:=jb isSp
--p mg
theorem mg(l:List za):(sp l).length<=l.length:=(Q6 l).length_le
--p Bl
theorem Bl: ∀l:List za,sp (sp l)=sp l
 |[]=>rfl
 |v::l=>by
  rw[Cv];cases h:isSp v with
  |true=>rw[Ka rfl];exact Bl l
  |false=>rw[Ia (by simp),Cv,h,Ia (by simp)]
--p EndS
--p trimB_idem
--p end_tail
--p end_sp
--p trimS_end
--p sp_pre
--p gK
theorem gK {α A S X R:Type} {step:S->Option (LO S X R)} {k:X->Option R} (l:List α) (f:A->α->A) (st:A->Nat->S) (out:A->X) {s0:S} {a0:A} (h0:s0=st a0 0)
  (hg: ∀(i:Nat) (a:A) (h:i<l.length),step (st a i)=some (.again (st (f a l[i]) (i+1))))
  (hf: ∀a:A,step (st a l.length)=some (.out (out a))):Zp step s0 k=k (out (l.foldl f a0)):=by
 have key: ∀(m:List α) (i:Nat) (a:A),l.drop i=m->i<=l.length-> ∃n,qd step n (st a i)=some (.out (out (m.foldl f a))):=by
  intro m
  induction m with
  |nil=>
   intro i a hd hi;have:i=l.length:=by have:=Yc.1 hd;omega
   subst this;exact⟨1,by simp only[qd,hf,List.foldl_nil]⟩
  |cons v m ih=>
   intro i a hd hi;have hlt:i<l.length:=by
    rcases Wd i l.length with h|h
    ·exact h
    ·rw[List.drop_eq_nil_of_le h]at hd;cases hd
   have hv:l[i]=v:=by have:=Cb hlt;rw[hd]at this;injection this with h1 _;exact h1.symm
   have hs:=hg i a hlt;rw[hv]at hs;obtain⟨n,hn⟩:=ih (i+1) (f a v) (by rw[Cb hlt]at hd;injection hd) (by omega);refine⟨n+1,?_⟩;simp only[qd,hs];rw[hn,Ae]
 obtain⟨n,hn⟩:=key l 0 a0 rfl (by omega);rw[h0,qY (xh hn)];rfl
--> pulled
theorem XN {S X R:Type} {step:S->Option (LO S X R)} {k:X->Option R} (μ:S->Nat) (ok:S->Prop) (Q:S->R->Prop)
  (h: ∀s,ok s->(∃s',step s=some (.again s')/\ok s'/\μ s'<μ s/\ ∀r,Q s' r->Q s r)\/(∃r,step s=some (.ret r)/\Q s r)\/(∃x,step s=some (.out x)/\ ∃r,k x=some r/\Q s r)) {s:S} (hs:ok s): ∃r,Zp step s k=some r/\Q s r:=by
 have key: ∀(m:Nat) (s:S),μ s<m->ok s-> ∃j x,qd step j s=some x/\ ∃r,LX.go x k=some r/\Q s r:=by
  intro m
  induction m with
  |zero=>intro s h;omega
  |succ m ih=>
   intro s hm hs;rcases h s hs with⟨s',h1,h2,h3,h4⟩|⟨r,h1,h2⟩|⟨x,h1,r,h2,h3⟩
   ·obtain⟨j,x,g1,r,g2,g3⟩:=ih s' (by omega) h2;exact⟨j+1,x,by simp only[qd,h1];exact g1,r,g2,h4 r g3⟩
   ·exact⟨1, .ret r,by simp only[qd,h1],r,rfl,h2⟩
   ·exact⟨1, .out x,by simp only[qd,h1],r,h2,h3⟩
 obtain⟨j,x,h1,r,h2,h3⟩:=key (μ s+1) s (by omega) hs;exact⟨r,by rw[qY (xh h1),h2],h3⟩
def ai(l:List za):Int:=match l with
 |[]=>0
 |a::_=>a.token.kind
theorem Ko(l:List za):Zn ⟨l⟩=some (ai l):=by
 unfold Zn ai;cases l with
 |nil=>rfl
 |cons a r=> have e0:(((a::r).length:Int)==0)=false:=Ga.2 (by simp only[Ea];omega);have e1:geti (a::r) 0=some a:=rfl;simp only[e0,e1,Ca,ze,Aa]
theorem Km(a:za)(r:List za):Zt ⟨a::r⟩=some (a,⟨r⟩):=by unfold Zt;have e1:geti (a::r) 0=some a:=rfl;have e2:decide ((1:Int)<=((a::r).length:Int))=true:=Ha (by simp only[Ea];omega);simp only[e1,e2,ZF,ze,Aa,Et,List.drop_succ_cons,List.drop_zero]
theorem zFl(a b:Nat):decide ((a:Int)<(b:Int))=decide (a<b):=by
 by_cases h:a<b
 ·rw[Ha h];exact Ha (by omega)
 ·rw[Ta h];exact Ta (by omega)
theorem Q4(l:List za):zQ ⟨l⟩=some (decide ((sp l).length<l.length),⟨sp l⟩):=by
 unfold zQ;refine(qY (r:= .out ⟨sp l⟩) (Qq (fun s=>sp s.v=sp l) (fun s=>s.v.length) _ (fun s hs=> ?_) rfl)).trans ?_
 ·obtain⟨s⟩:=s;have hs:sp s=sp l:=hs;simp only[Ko,ze,Aa];cases s with
  |nil=>exact .inr (.inl ⟨⟨[]⟩,rfl,by rw[<-hs];rfl⟩)
  |cons a r=>
   rw[Cv]at hs;cases ha:isSp a with
   |true=> rw[ha,Ka rfl]at hs;unfold isSp at ha;refine .inl ⟨⟨r⟩,?_,hs,by simp⟩;simp only[ai,ha,Da,Km,Aa]
   |false=> rw[ha,Ia (by simp)]at hs;unfold isSp at ha;exact .inr (.inl ⟨⟨a::r⟩,by simp only[ai,ha,Ca],by rw[<-hs]⟩)
 ·rw[znk,zFl]
def isW(s:Str)(a:za):Bool:=a.token.kind==1&&lowS a.token.text==s
def headW(s:Str)(l:List za):Bool:=match l with
 |[]=>false
 |a::_=>isW s a
def Ti:List Str->List za->Option Str
 |[],_=>none
 |s::ws,l=>bif headW s l then some s else Ti ws l
theorem Ox(ws:List Str)(l:List za)(hl: ∀a∈l,a.token.text.length<=big)(hw: ∀s∈ws,s.length<=big/\lowS s=s)(hn:ws.length<=big):
  qi (ws,⟨l⟩)=some (match Ti ws l with|some s=>(s,⟨l.tail⟩)|none=>([],⟨l⟩)):=by
 unfold qi;have key: ∀(m:List Str) (i:Nat),ws.drop i=m->i<=ws.length-> ∃n x,qd (fun(s1:Int×zh)=>
   bif decide (s1.1<(ws.length:Int))then
    ze (geti ws s1.1) fun y2=>
    ze (Zn s1.2) fun y3=>
    ze (zK (y3==1) (geti s1.2.v 0) (default:za)) fun y4=>
    ze (zK (y3==1) (ZZ (y4.token.text,y2)) (default:Bool)) fun y5=>
    bif bif y3==1 then y5 else false then
     ze (Zt s1.2) fun y6=>
     some (LO.ret (y2,y6.2))
    else
     some (LO.again (w64 (s1.1+1),s1.2))
   else
    some (LO.out s1.2):Int×zh->Option (LO (Int×zh) (zh) (Str×zh))) n ((i:Int),⟨l⟩)=some x/\
   x=(match Ti m l with|some s=>LX.ret (s,⟨l.tail⟩)|none=>LX.out ⟨l⟩):=by
  intro m
  induction m with
  |nil=>
   intro i hd hi;have:i=ws.length:=by have:=Yc.1 hd;omega
   subst this;exact⟨1,LX.out ⟨l⟩,by simp only[qd,ZU,Ca],rfl⟩
  |cons w m ih=>
   intro i hd hi;obtain⟨hlt,hg,hd'⟩:i<ws.length/\geti ws (i:Int)=some w/\ws.drop (i+1)=m:=by
    have hi:i<ws.length:=by
     rcases Wd i ws.length with h'|h'
     ·exact h'
     ·rw[List.drop_eq_nil_of_le h']at hd;cases hd
    rw[Cb hi]at hd;injection hd with h1 h2;exact⟨hi,by rw[Zy hi,h1],h2⟩
   have hmem:w∈ws:=by
    have:w∈ws.drop i:=by rw[hd];exact Fb
    exact Fg this
   obtain⟨hw1,hw2⟩:=hw w hmem;have hstep:(ze (geti ws (i:Int)) fun y2=>ze (Zn ⟨l⟩) fun y3=>
    ze (zK (y3==1) (geti l 0) (default:za)) fun y4=>
    ze (zK (y3==1) (ZZ (y4.token.text,y2)) (default:Bool)) fun y5=>
    bif bif y3==1 then y5 else false then
     ze (Zt ⟨l⟩) fun y6=>
     some (LO.ret (y2,y6.2))
    else
     some (LO.again (w64 ((i:Int)+1),(⟨l⟩:zh))))=some (bif headW w l then(LO.ret (w,⟨l.tail⟩):LO (Int×zh) zh (Str×zh))else LO.again (((i+1:Nat):Int),⟨l⟩)):=by
    simp only[hg,Ko,ze,Aa,ZI hlt hn];cases l with
    |nil=>rfl
    |cons a r=>
     have e1:geti (a::r) 0=some a:=rfl;simp only[ai,headW,isW];cases a.token.kind==1 with
     |false=>rfl
     |true=> simp only[Zl,e1,Aa,Xm (hl a Fb) hw1,hw2,Da,Km,Kb];cases lowS a.token.text==w<;>rfl
   cases hh:headW w l with
   |true=> rw[hh]at hstep;refine⟨1,LX.ret (w,⟨l.tail⟩),by simp only[qd,qa hlt,Da];rw[hstep];rfl,?_⟩;simp only[Ti,hh,Da]
   |false=>
    rw[hh]at hstep;obtain⟨n,x,g1,g2⟩:=ih (i+1) hd' (by omega);refine⟨n+1,x,?_,?_⟩
    ·simp only[qd,qa hlt,Da];rw[hstep];exact g1
    ·rw[g2];simp only[Ti,hh,Ca]
 obtain⟨n,x,h1,h2⟩:=key ws 0 rfl (Ya _);simp only[Int.natCast_zero]at h1;rw[qY (xh h1),h2];cases Ti ws l<;>rfl
abbrev minW:Str:=[109,105,110,45,119,105,100,116,104]
abbrev maxW:Str:=[109,97,120,45,119,105,100,116,104]
def pxS(t:zk):Bool:=((t.kind==12&&lowS t.unit==[112,120])||(t.kind==10&&t.num==0))&&(decide (0<=t.num)&&isN t.num)
def noDC:Zh:=⟨[],[],false⟩
def gp(k:Int)(r:List za):Option zt:=match sp r with
 |[]=>none
 |c::r2=>bif c.token.kind==16 then(match sp r2 with
  |[]=>none
  |t::r3=>bif (sp r3).isEmpty&&pxS t.token then some ⟨k,[],t.token.num,noDC,[]⟩else none)else none
def gJ:List za->Option zt
 |[]=>none
 |w::r=>bif isW minW w then gp 5 r else bif isW maxW w then gp 6 r else none
def Ei(a:za):Option zt:=bif a.token.kind==21 then gJ (sp a.list)else none
def Eu(l:List za):Option zt:=match l with
 |[]=>none
 |a::_=>Ei a
def MayR(r:zt×Bool)(o:Option zt):Prop:=r.2=o.isSome/\ ∀x,o=some x->r.1=x
theorem ZM(c:zt):MayR (c,false) none:=⟨rfl,fun x h=>by cases h⟩
theorem Nj(c:zt):MayR (c,true) (some c):=⟨rfl,fun x h=>by cases h;rfl⟩
theorem Kn{l:List za}(h:zL zg l<=big){a:za}(ha:a∈l):a.token.text.length<=big/\a.token.unit.length<=big/\zL zg a.list<=big/\zL zg a.list<zL zg l:=by have h1:=Ah (f:=zg) ha;have h2:=Q8 a;omega
theorem zEq{α:Type}(b:Bool)(x y:α):(bif !b then x else y)=bif b then y else x:=by cases b<;>rfl
theorem zFV(t:zk)(e:Bool)(h:t.unit.length<=big)(R:Type)(k:Bool->Option R):((zK (t.kind==12) (ZZ (t.unit,[112,120])) (default:Bool)).bind fun y14=>
   (zK (bif bif bif t.kind==12 then y14 else false then true else bif t.kind==10 then t.num==0 else false then decide (t.num>=0)else false) (Pp t.num) (default:Int)).bind fun y15=>
   k (bif bif bif bif bif t.kind==12 then y14 else false then true else bif t.kind==10 then t.num==0 else false then decide (t.num>=0)else false then y15==0 else false then e else false))=k (e&&pxS t):=by
 have e2:((bif isN t.num then(0:Int)else 8)==0)=isN t.num:=by cases isN t.num<;>rfl
 have e3:decide (t.num>=0)=decide (0<=t.num):=rfl;have hlw:lowS ([112,120]:Str)=[112,120]:=by decide
 have hal:zK (t.kind==12) (ZZ (t.unit,[112,120])) (default:Bool)=some (bif t.kind==12 then lowS t.unit==[112,120]else default):=by rw[Xm h (by decide),hlw,ZJ]
 rw[hal];simp only[E8,ZJ,Aa,pxS,e3];cases t.kind==12<;>cases lowS t.unit==[112,120]<;>cases t.kind==10<;>cases t.num==0<;>cases decide (0<=t.num)<;>simp only[Da,Ca,e2]<;>cases isN t.num<;>cases e<;>rfl
theorem xW{l:List za}(hz:zL zg l<=big): ∃c b,qL ⟨l⟩=some ((c,b),⟨match l with|[]=>[]|a::r=>bif a.token.kind==21 then r else a::r⟩)/\MayR (c,b) (Eu l):=by
 unfold qL;simp only[Ko,ze,Aa];cases l with
 |nil=>exact⟨_,_,rfl,ZM _⟩
 |cons a r=>
  obtain⟨_,_,hal,_⟩:=Kn hz (Fb (a:=a) (l:=r));simp only[ai,Eu,Ei,bne];cases a.token.kind==21 with
  |false=>exact⟨_,_,rfl,ZM _⟩
  |true=>
   simp only[Eb,Ca,Da,Km,Aa,Q4];have hzm:zL zg (sp a.list)<=big:=Ab (Ig (Q6 _)) hal;generalize sp a.list=m at*;rw[Ox [minW,maxW] m (fun x hx=>(Kn hzm hx).1) (by intro s hs;simp at hs;rcases hs with rfl|rfl<;>exact⟨by decide,by decide⟩) (by decide)];cases m with
   |nil=>exact⟨_,_,rfl,ZM _⟩
   |cons w r1=>
    rw[ZK]at hzm
    -- behind the word
    have tail: ∀k:Int,∃(c:zt) (b:Bool),((zQ (⟨r1⟩:zh)).bind fun y6=>
      (Zn y6.2).bind fun y7=>
      bif !(y7==16)then
       some (((⟨k,[],0,(⟨[],[],false⟩:Zh),[]⟩:zt),false),(⟨r⟩:zh))
      else
       (Zt y6.2).bind fun y8=>
       (zQ y8.2).bind fun y9=>
       (Zn y9.2).bind fun y10=>
       (zK (!(y10==12)) (Zn y9.2) (default:Int)).bind fun y11=>
       bif bif !(y10==12)then !(y11==10)else false then
        some (((⟨k,[],0,(⟨[],[],false⟩:Zh),[]⟩:zt),false),(⟨r⟩:zh))
       else
        (Zt y9.2).bind fun y12=>
        (zQ y12.2).bind fun y13=>
        (zK (y12.1.token.kind==12) (ZZ (y12.1.token.unit,[112,120])) (default:Bool)).bind fun y14=>
        (zK (bif bif bif y12.1.token.kind==12 then y14 else false then true else bif y12.1.token.kind==10 then y12.1.token.num==0 else false then decide (y12.1.token.num>=0)else false) (Pp y12.1.token.num) (default:Int)).bind fun y15=>
        some (((⟨k,[],y12.1.token.num,(⟨[],[],false⟩:Zh),[]⟩:zt),bif bif bif bif bif y12.1.token.kind==12 then y14 else false then true else bif y12.1.token.kind==10 then y12.1.token.num==0 else false then decide (y12.1.token.num>=0)else false then y15==0 else false then(y13.2.v.length:Int)==0 else false),(⟨r⟩:zh)))=some ((c,b),⟨r⟩)/\MayR (c,b) (gp k r1):=by
     intro k;simp only[Q4,Ko,Aa,gp];have hz1:zL zg (sp r1)<=big:=Ab (Ig (Q6 _)) (by omega);cases hs1:sp r1 with
     |nil=>exact⟨_,_,rfl,ZM _⟩
     |cons c r2=>
      rw[hs1,ZK]at hz1;simp only[ai,zEq];cases c.token.kind==16 with
      |false=>exact⟨_,_,rfl,ZM _⟩
      |true=>
       simp only[Da,Km,Aa,Q4,Ko];have hz2:zL zg (sp r2)<=big:=Ab (Ig (Q6 _)) (by omega);cases hs2:sp r2 with
       |nil=>exact⟨_,_,rfl,ZM _⟩
       |cons t r3=>
        rw[hs2]at hz2;obtain⟨_,hu,_⟩:=Kn hz2 (Fb (a:=t) (l:=r3));simp only[ai,ZJ,Aa,Km,Q4,En];have hpx:=zFV t.token (sp r3).isEmpty hu ((zt×Bool)×zh) fun b=>some (((⟨k,[],t.token.num,(⟨[],[],false⟩:Zh),[]⟩:zt),b),(⟨r⟩:zh));rw[hpx];have hno:(t.token.kind==12)=false->(t.token.kind==10)=false->pxS t.token=false:=by intro h1 h2;unfold pxS;rw[h1,h2];rfl
        cases h12:t.token.kind==12 with
        |true=>
         simp only[Eb,Ca];refine⟨_,_,rfl,?_⟩;cases (sp r3).isEmpty&&pxS t.token
         ·exact ZM _
         ·exact Nj _
        |false=>
         cases h10:t.token.kind==10 with
         |true=>
          simp only[Ua,Eb,Da,Ca,h10];refine⟨_,_,rfl,?_⟩;cases (sp r3).isEmpty&&pxS t.token
          ·exact ZM _
          ·exact Nj _
         |false=> simp only[Ua,Da,h10];rw[hno h12 h10,Md];exact⟨_,_,rfl,ZM _⟩
    have q1:(minW==([]:Str))=false:=rfl;have q2:(minW==maxW)=false:=rfl;have q3:(maxW==([]:Str))=false:=rfl;have q4:(maxW==maxW)=true:=rfl;have q5:(([]:Str)==([]:Str))=true:=rfl;simp only[Ti,headW,gJ];cases isW minW w with
    |true=> obtain⟨c,b,h1,h2⟩:=tail 5;simp only[Da,Aa,q1,q2,Ca,zJ,je];exact⟨c,b,h1,h2⟩
    |false=>
     cases isW maxW w with
     |true=> obtain⟨c,b,h1,h2⟩:=tail 6;simp only[Da,Aa,q3,q4,Ca,zJ,je];exact⟨c,b,h1,h2⟩
     |false=> simp only[Da,Aa,q5,Ca,zj1];exact⟨_,_,rfl,ZM _⟩
abbrev andW:Str:=[97,110,100]
abbrev orW:Str:=[111,114]
abbrev notW:Str:=[110,111,116]
abbrev Sy:Str:=[111,110,108,121]
def Rk:Nat->List za->Option (List zt)
 |0,_=>none
 |n+1,l=>match sp l with
  |[]=>some []
  |a::r=>bif isW andW a then(match sp r with
   |[]=>none
   |b::r'=>match Ei b with
    |none=>none
    |some x=>(Rk n r').map (x:: ·))else none
def Ui(l:List za):Option (List zt):=Rk (l.length+1) l
theorem rP: ∀{n m:Nat} {l:List za},l.length<n->l.length<m->Rk n l=Rk m l
 |0,_,_,h,_=>by omega
 |_,0,_,_,h=>by omega
 |n+1,m+1,l,h1,h2=>by
  unfold Rk;cases hs:sp l with
  |nil=>rfl
  |cons a r=>
   have hl:=mg l;rw[hs,Ea]at hl;simp only;cases isW andW a with
   |false=>rfl
   |true=>
    simp only[Da];cases hs2:sp r with
    |nil=>rfl
    |cons b r'=>
     have hl2:=mg r;rw[hs2,Ea]at hl2;simp only;cases Ei b with
     |none=>rfl
     |some x=>rw[rP (n:=n) (m:=m) (by omega) (by omega)]
theorem mr(l:List za):Ui l=match sp l with
  |[]=>some []
  |a::r=>bif isW andW a then(match sp r with
   |[]=>none
   |b::r'=>match Ei b with
    |none=>none
    |some x=>(Ui r').map (x:: ·))else none:=by
 show Rk (l.length+1) l=_;unfold Rk;cases hs:sp l with
 |nil=>rfl
 |cons a r=>
  have hl:=mg l;rw[hs,Ea]at hl;simp only;cases isW andW a with
  |false=>rfl
  |true=>
   simp only[Da];cases hs2:sp r with
   |nil=>rfl
   |cons b r'=>
    have hl2:=mg r;rw[hs2,Ea]at hl2;simp only;cases Ei b with
    |none=>rfl
    |some x=>rw[rP (n:=l.length) (m:=r'.length+1) (by omega) (by omega)];rfl
def allC(l:List zt):zt:=⟨1,[],0,noDC,l⟩
def notC(c:zt):zt:=⟨3,[],0,noDC,[c]⟩
def medC(s:Str):zt:=⟨4,s,0,noDC,[]⟩
def oq(only:Bool)(l:List za):Option zt:=match l with
 |[]=>none
 |a::_=>bif a.token.kind==1 then(bif medS (lowS a.token.text)then some (medC (lowS a.token.text))else none)else bif only then none else Ei a
def ll(not only:Bool)(l:List za):Option zt:=match oq only l with
 |none=>none
 |some x=>match Ui l.tail with
  |none=>none
  |some r=>some (bif not then notC (allC (x::r))else allC (x::r))
def og(l:List za):Option zt:=
 bif headW notW (sp l)then ll true true (sp (sp l).tail)else bif headW Sy (sp l)then ll false true (sp (sp l).tail)else ll false false (sp l)
end Go.Lv.VT
