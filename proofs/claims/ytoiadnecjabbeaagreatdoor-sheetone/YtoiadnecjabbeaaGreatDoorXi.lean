/- How large declarations and conditions are that are read. -/
import Derived.Test.YtoiadnecjabbeaaGreatDoorXg
import Derived.Test.YtoiadnecjabbeaaGreatDoorXh
import Derived.Test.YtoiadnecjabbeaaGreatDoorXf
import Derived.Test.YtoiadnecjabbeaaGreatDoorXe
set_option linter.unusedSimpArgs false
set_option linter.unusedVariables false
namespace Go.Lv.VT
set_option maxRecDepth 100000
abbrev zV(l:List za):Nat:=zL zg l
theorem yl{a b:List za}(h:a.Sublist b):zV a<=zV b:=Ig h
theorem Ph(v:za)(l:List za):zV (v::l)=6+v.token.text.length+v.token.unit.length+zV v.list+zV l:=by show zL zg (v::l)=_;rw[ZK,Q8]
theorem spL(l:List za):zV (sp l)<=zV l:=yl (Q6 l)
theorem zFt(s:Str):(nmD s).length=s.length:=by
 unfold nmD;cases List.isPrefixOf [45,45] s
 ·exact Vn s
 ·rfl
theorem nR{x:List za}(h:(oneS x).2=true):zA (ZC (oneS x).1)<=zV x:=by
 have hx:=yl (sO x);unfold oneS at h ⊢;cases e:trimS x with
 |nil=>simp only[e]at h;cases h
 |cons n r=>
  rw[e,Ph]at hx;simp only[e]at h ⊢;cases hk:n.token.kind==1 with
  |false=>rw[hk]at h;cases h
  |true=>
   rw[hk,Da]at h;simp only[Da];have h2:=yl (jb isSp (l:=r));cases e2:r.dropWhile isSp with
   |nil=>simp only[e2]at h;cases h
   |cons c q=>
    rw[e2,Ph]at h2;simp only[e2]at h ⊢;cases hc:c.token.kind==16 with
    |false=>rw[hc]at h;cases h
    |true=>
     rw[hc,Da]at h;simp only[Da];cases hd:Eh ⟨nmD n.token.text,(Hg (q.dropWhile isSp)).1,(Hg (q.dropWhile isSp)).2⟩with
     |false=>rw[hd]at h;cases h
     |true=> simp only[Da];have h3:=yl (jb isSp (l:=q));have h4:zV (Hg (q.dropWhile isSp)).1<=zV (q.dropWhile isSp):=yl (KM _);rw[Q7,zFt];show 3+n.token.text.length+zV (Hg (q.dropWhile isSp)).1<=zV x;omega
def zP(ps:List (List za)):Nat:=(ps.map zV).sum
theorem iy(a b:List (List za)):zP (a++b)=zP a+zP b:=by unfold zP;rw[Re,List.sum_append]
theorem oK(k:Int): ∀(l:List za) (a:List (List za)×List za),zP (l.foldl (Xf k) a).1+zV (l.foldl (Xf k) a).2+6*(l.foldl (Xf k) a).1.length<=zP a.1+zV a.2+6*a.1.length+zV l
 |[],a=>by show _<=_+zV [];rw[show zV []=0 from rfl];exact Ra _
 |v::l,a=>by
  rw[Ae];have ih:=oK k l (Xf k a v);have hv:=Ph v l;refine Ab ih ?_;unfold Xf;split
  ·rw[iy,La,show zP [a.2]=zV a.2 from rfl,show zV []=0 from rfl,Lc];omega
  ·have h1:zV (a.2++[v])=zV a.2+zV [v]:=bi zg a.2 [v];have h2:zV [v]=6+v.token.text.length+v.token.unit.length+zV v.list:=Ph v [];show zP a.1+zV (a.2++[v])+6*a.1.length+zV l<=_;omega
theorem nE(k:Int)(l:List za):zP (Tf k l)+6*(Tf k l).length<=zV l+6:=by have h:=oK k l ([],[]);unfold Tf Pf;rw[iy,La,Lc,show∀p:List za,zP [p]=zV p from fun _=>rfl];simp only[show zP []=0 from rfl,show zV []=0 from rfl,Xa]at h;omega
theorem zHP(a:List Zh)(p:List za):zL ZC (Tj a p)<=zL ZC a+zV p:=by
 unfold Tj;cases hb:(oneS p).2&&decide (a.length<32)with
 |false=>exact uf ..
 |true=> rw[Fa]at hb;have:=nR hb.1;rw[Da,bi,ZK,Gh];omega
theorem AL: ∀(ps:List (List za)) (a:List Zh),zL ZC (ps.foldl Tj a)<=zL ZC a+zP ps
 |[],a=>uf ..
 |p::ps,a=>by rw[Ae];have h1:=AL ps (Tj a p);have h2:=zHP a p;have h3:zP (p::ps)=zV p+zP ps:=rfl;omega
theorem zCk(x:List za):zL ZC (Mi (Tf 17 x))<=zV x+6:=by have h1:=AL (Tf 17 x) [];have h2:=nE 17 x;unfold Mi;rw[Gh]at h1;omega
theorem zC(c:zt):zA (zu c)=7+c.name.length+c.decl.name.length+zV c.decl.value+zL zu c.list:=by have h1:zA (ZC c.decl)=3+c.decl.name.length+zV c.decl.value:=Q7 _;rw[Hl,h1];omega
theorem Mj(k:Int)(s:Str)(n:Int)(l:List zt):zA (zu ⟨k,s,n,noDC,l⟩)=7+s.length+zL zu l:=by rw[zC];show 7+s.length+0+0+zL zu l=_;omega
theorem PK{k:Int}{r:List za}{c:zt}(h:gp k r=some c):zA (zu c)=7:=by
 unfold gp at h;split at h
 ·cases h
 ·rename_i a r2 e;cases ha:a.token.kind==16 with
  |false=>rw[ha]at h;cases h
  |true=>
   rw[ha,Da]at h;split at h
   ·cases h
   ·rename_i t r3 _;cases hb:(sp r3).isEmpty&&pxS t.token with
    |true=>rw[hb]at h;cases h;exact Mj ..
    |false=>rw[hb]at h;cases h
theorem kT{a:za}{c:zt}(h:Ei a=some c):zA (zu c)=7:=by
 unfold Ei gJ at h;cases ha:a.token.kind==21 with
 |false=>rw[ha]at h;cases h
 |true=>
  rw[ha,Da]at h;split at h
  ·cases h
  ·rename_i w r e;cases h1:isW minW w with
   |true=>rw[h1,Da]at h;exact PK h
   |false=>
    rw[h1,Ca]at h;cases h2:isW maxW w with
    |true=>rw[h2,Da]at h;exact PK h
    |false=>rw[h2]at h;cases h
theorem BU: ∀(n:Nat) (l:List za) (r:List zt),Rk n l=some r->zL zu r<=zV l
 |0,_,_,h=>by cases h
 |n+1,l,r,h=>by
  have h0:=spL l;unfold Rk at h;split at h
  ·cases h;exact Ya _
  ·rename_i a q e;rw[e,Ph]at h0;have h1:=spL q;cases ha:isW andW a with
   |false=>rw[ha]at h;cases h
   |true=>
    rw[ha,Da]at h;split at h
    ·cases h
    ·rename_i b q' e2;rw[e2,Ph]at h1;split at h
     ·cases h
     ·rename_i x hx;obtain⟨r',h2,rfl⟩:=Ja.1 h;have h3:=BU n q' r' h2;rw[ZK,kT hx];omega
theorem YE{no only:Bool}{l:List za}{c:zt}(h:ll no only l=some c):zA (zu c)<=21+2*zV l:=by
 unfold ll at h;split at h
 ·cases h
 ·rename_i x hx;split at h
  ·cases h
  ·rename_i r hr;have h1:=BU _ _ _ hr;have h2:zA (zu x)+zV l.tail<=7+zV l:=by
    unfold oq at hx;split at hx
    ·cases hx
    ·rename_i a t;have:=Ph a t;show _+zV t<=_;cases ha:a.token.kind==1 with
     |true=>
      rw[ha,Da]at hx;cases hm:medS (lowS a.token.text)with
      |false=>rw[hm]at hx;cases hx
      |true=> rw[hm,Da]at hx;cases hx;have h3:zA (zu (medC (lowS a.token.text)))=7+(lowS a.token.text).length+0:=Mj ..;rw[Vn]at h3;omega
     |false=>
      rw[ha,Ca]at hx;cases ho:only with
      |true=>rw[ho]at hx;cases hx
      |false=>rw[ho,Ca]at hx;have:=kT hx;omega
   have h3:zA (zu (allC (x::r)))=7+0+(zA (zu x)+zL zu r):=Mj ..;injection h with h;subst h;cases no with
   |false=>show zA (zu (allC (x::r)))<=_;omega
   |true=> have h4:zA (zu (notC (allC (x::r))))=7+0+(zA (zu (allC (x::r)))+0):=Mj ..;show zA (zu (notC (allC (x::r))))<=_;omega
theorem zIt(l:List za):zV l.tail<=zV l:=yl (Xh l)
theorem zFW(l:List za):zA (zu (orN (og l)))<=24+2*zV l:=by
 cases hq:og l with
 |none=>exact Ab (by decide:zA (zu Ez)<=24) (uf ..)
 |some c=>
  show zA (zu c)<=_;have h0:=spL l;have h1:=zIt (sp l);have h2:=spL (sp l).tail;unfold og at hq;cases ha:headW notW (sp l)with
  |true=>rw[ha,Da]at hq;have:=YE hq;omega
  |false=>
   rw[ha,Ca]at hq;cases hb:headW Sy (sp l)with
   |true=>rw[hb,Da]at hq;have:=YE hq;omega
   |false=>rw[hb,Ca]at hq;have:=YE hq;omega
theorem zEo(x:List za):zA (zu (yu x))<=31+6*zV x:=by
 have key: ∀ps:List (List za),zL zu (ps.map fun p=>orN (og p))<=24*ps.length+2*zP ps:=by
  intro ps
  induction ps with
  |nil=>exact Ya _
  |cons p ps ih=> have:=zFW p;rw[Ac,ZK,Ea];show _<=_+2*(zV p+zP ps);omega
 have h1:=key (Tf 18 x);have h2:=nE 18 x;have h3:zA (zu (yu x))=7+0+zL zu ((Tf 18 x).map fun p=>orN (og p)):=Mj ..;omega
theorem zFr(x:List za):zA (zu (Xj x).1)<=31+6*zV x:=by
 have h0: ∀k,zA (zu ⟨k,[],0,noDC,[]⟩)<=31+6*zV x:=fun k=>by rw[Mj];show 7+0+0<=_;omega
 unfold Xj;split
 ·split
  ·exact h0 _
  ·split
   ·exact h0 _
   ·exact zEo x
 ·exact h0 _
section
variable {f:List za->Option zt} {N:Nat} (hf: ∀l c,zV l<N->f l=some c->zA (zu c)<=3*zV l)
include hf
theorem rJ{a:za}{c:zt}(ha:zV a.list<N)(h:Og f a=some c):zA (zu c)<=18+3*zV a.list:=by
 have h8:zA (zu iq)<=18+3*zV a.list:=by have:zA (zu iq)=7+0+0:=Mj ..;omega
 unfold Og at h;cases h2:a.token.kind==2 with
 |true=>rw[h2,Da]at h;cases h;exact h8
 |false=>
  rw[h2,Ca]at h;cases h3:a.token.kind==21 with
  |false=>rw[h3]at h;cases h
  |true=>
   rw[h3,Da]at h;split at h
   ·rename_i d hd;cases h;unfold oneO at hd;cases ho:(oneS a.list).2 with
    |false=>rw[ho]at hd;cases hd
    |true=> rw[ho,Da]at hd;cases hd;have h4:=nR ho;rw[Q7]at h4;rw[zC];show 7+0+(oneS a.list).1.name.length+zV (oneS a.list).1.value+0<=_;show 7+0+(oneS a.list).1.name.length+zL zg (oneS a.list).1.value+0<=_;omega
   ·split at h
    ·cases h;rename_i c' hc;have:=hf _ _ ha hc;omega
    ·cases h;exact h8
theorem YT(op:Str): ∀(n:Nat) (flag:Bool) (l:List za) (r:List zt),zV l<=N->Dj f op n flag l=some r->(l=[]/\r=[])\/zL zu r+18<=3*zV l
 |0,_,_,_,_,h=>by cases h
 |n+1,_,[],r,_,h=>by cases h;exact .inl ⟨rfl,rfl⟩
 |n+1,flag,a::q,r,hN,h=>by
  rw[YO]at h;have h0:=Ph a q;have h1:=spL q;cases ha:flag&&(isW op a&&decide ((sp q).length<q.length))with
  |false=>rw[ha]at h;cases h
  |true=>
   rw[ha,Da]at h;split at h
   ·cases h
   ·rename_i b q' e2;rw[e2,Ph]at h1;have h2:=spL q';split at h
    ·cases h
    ·rename_i x hx;obtain⟨r',h3,rfl⟩:=Ja.1 h;have h5:=rJ hf (by omega) hx;refine .inr ?_;rw[ZK];rcases YT op n _ _ r' (by omega) h3 with⟨_,e⟩|h4
     ·rw[e,Gh];omega
     ·omega
theorem zGd{l:List za}{c:zt}(hl:zV l<=N)(h:Mh f l=some c):zA (zu c)<=3*zV l:=by
 unfold Mh at h;have h0:=spL l;split at h
 ·cases h
 ·rename_i a r e;rw[e,Ph]at h0;have h1:=spL r;cases ha:isW notW a with
  |true=>
   rw[ha,Da]at h;cases hb:decide ((sp r).length<r.length)&&(sp (sp r).tail).isEmpty with
   |false=>rw[hb]at h;cases h
   |true=>
    rw[hb,Da]at h;obtain⟨x,h3,rfl⟩:=Ja.1 h;have h4:zA (zu (notC x))=7+0+(zA (zu x)+0):=Mj ..;unfold Ej at h3;split at h3
    ·cases h3
    ·rename_i b t e3;rw[e3,Ph]at h1;have:=rJ hf (by omega) h3;omega
  |false=>
   rw[ha,Ca]at h;split at h
   ·cases h
   ·rename_i x hx;have h2:=rJ hf (by omega) hx;split at h
    ·cases h;omega
    ·rename_i w t e3;rw[e3]at h1;have key: ∀op k q,Yg f op (decide ((sp r).length<r.length)) (w::t)=some q->zA (zu ⟨k,[],0,noDC,x::q⟩)<=3*zV l:=fun op k q hq=>by
      have h4:zA (zu ⟨k,[],0,noDC,x::q⟩)=7+0+(zA (zu x)+zL zu q):=Mj ..;rcases YT hf op _ _ _ q (by omega) hq with⟨e,_⟩|h5
      ·cases e
      ·omega
     cases ho:isW orW w with
     |true=> rw[ho,Da]at h;obtain⟨q,h6,rfl⟩:=Ja.1 h;exact key _ _ _ h6
     |false=> rw[ho,Ca]at h;obtain⟨q,h6,rfl⟩:=Ja.1 h;exact key _ _ _ h6
end
theorem XU: ∀(n:Nat) (l:List za) (c:zt),Vl n l=some c->zA (zu c)<=3*zV l
 |0,_,_,h=>by cases h
 |n+1,l,c,h=>zGd (N:=zV l) (fun l c _ h=>XU n l c h) (Ra _) h
theorem zIq(x:List za):zA (zu (supS x).1)<=7+3*zV x:=by
 have h0:zA (zu nilC)<=7+3*zV x:=by have:zA (zu nilC)=7+0+0:=Mj ..;omega
 unfold supS;split
 ·split
  ·rename_i c hc;have h1:=XU _ _ _ hc;cases Cw c with
   |true=>show zA (zu c)<=_;omega
   |false=>exact h0
  ·exact h0
 ·exact h0
abbrev encN:List Str->List PV:=fun l=>[.sl (l.map fun y=>[.str y])]
abbrev encT:Str->List PV:=fun y=>[.str y]
theorem VS(n:List Str):zA (encN n)=1+zL encT n:=by exact pE n
theorem zR(x:z8):zA (zG x)=5+zL zy x.selectors+zL ZC x.decls+zA (zu x.cond)+zL encN x.names+zL zG x.rules:=Bw x
def noR:z8:=⟨0,[],[],⟨0,[],0,⟨[],[],false⟩,[]⟩,[],[]⟩
theorem zNoC:zA (zu ⟨0,[],0,⟨[],[],false⟩,[]⟩)=7:=Mj ..
theorem zBp{p b:List za}(hp:4*zV p+8<=big)(hb:zV b<big):Has (FC (p,b)) fun y=>zA (zG y.1)<=18+3*zV p+zV b/\y.1.rules=[]/\(y.1.kind=0\/y.1.kind=1):=by
 have h0:zA (zG noR)<=18+3*zV p+zV b:=by rw[zR];show 5+0+0+zA (zu ⟨0,[],0,⟨[],[],false⟩,[]⟩)+0+0<=_;rw[zNoC];omega
 unfold FC;refine Has.bind (zA7 (v:=p) hp) fun y hy=> ?_;refine Has.bif (fun _=>Has.some ⟨h0,rfl, .inl rfl⟩) fun _=> ?_;refine Has.eqb (zH3 (x:=b) (Nat.lt_of_le_of_lt (Ij b) hb)) ?_;refine Has.some ⟨?_,rfl, .inr rfl⟩;have hd:zL ZC (if errS b=0 then(Mi (Tf 17 b),(0:Int))else([],errS b)).1<=zV b+6:=by
  split
  ·exact zCk b
  ·exact Ya _
 have hy:zL zy y.1<=3*zV p:=hy;rw[zR];show 5+zL zy y.1+zL ZC (if errS b=0 then(Mi (Tf 17 b),(0:Int))else([],errS b)).1+zA (zu ⟨0,[],0,⟨[],[],false⟩,[]⟩)+0+0<=_;rw[zNoC];omega
theorem RX{x:List Str}(h:x.length<=big):Has (rC x) fun _=>True:=by
 unfold rC;refine Has.bind (P:=fun _=>True) (Has.cond (fun _=> ?_) fun _=>trivial) fun _ _=>Has.some trivial;unfold Qi QR;refine Has.bind (P:=fun _=>True) (Has.of (sj x (fun v=> !Pk v) h (fun i hi=> ?_) ?_) trivial) fun _ _=>Has.some trivial
 ·have e:(decide ((0:Int)<=(i:Int))&&decide ((i:Int)<(x.length:Int)))=true:=jS hi;simp only[qa hi,Da,e,ZF,Lb,Sa hi,ze,Aa,WP];rw[show decide ((0:Int)<=(i:Int))=true from Ha (by omega)];rfl
 ·simp only[ZU,Ca]
theorem aR(v:List za)(n:Nat):zT v n<=zV v:=Si v n
theorem zDe{v:List za}(hz:zV v<=big):Has (XB v) fun y=>zL encT y.1<=zV v:=by
 have hs:szL v<=zV v:=Ij v;unfold XB;refine Has.eqb (GH (l:=v) (by omega)) ?_;refine Has.bif (fun _=>Has.some (Ya _)) fun _=> ?_;obtain⟨w,hw⟩: ∃w,(if errS v=0 then(trimS v,(0:Int))else([],errS v)).1=w:=⟨_,rfl⟩;have hwz:zV w<=zV v:=by
  rw[<-hw];split
  ·exact yl (sO v)
  ·exact Ya _
 simp only[hw];have hl:=zLen w;have hl':w.length<=zV w:=hl;refine Has.loop (fun s=> ∃i:Nat,i<=w.length/\s.1=(i:Int)/\zL encT s.2<=zT w i) (fun s=>w.length - s.1.toNat) (P:=fun l=>zL encT l<=zV v) ⟨0,Ya _,rfl,Ya _⟩ (fun⟨s1,l⟩ ⟨i,hi,e,h1⟩=> ?_) fun l hl2=> ?_
 ·have e:s1=_:=e;subst e;dsimp only at h1 ⊢;have hti:=aR w i;refine Has.bif (fun hlt=> ?_) fun _=>Has.some (by show zL encT l<=_;omega);have hlt:i<w.length:=by have:=Sb hlt;omega
  have ht:=Jj hlt;have hti1:=aR w (i+1);have hlen:l.length<=zL encT l:=Ag (fun y=>by simp[zA,bPV]) l;have e1:w64 ((i:Int)+1)=((i+1:Nat):Int):=Bi (by unfold big at *; omega);refine Has.join (P:=fun j=>j.1=(i:Int)/\zL encT j.2<=zT w (i+1)) ?_ fun⟨j1,j2⟩ ⟨e2,h2⟩=> ?_
  ·refine Has.eqb (Zy hlt) ?_;refine Has.bif (fun _=>Has.bif (fun _=>Has.some (Ya _)) fun _=>Has.some ⟨rfl,by show zL encT l<=_;omega⟩) fun _=>Has.bif (fun _=>Has.some (Ya _)) fun _=> ?_;refine Has.need (qg (by unfold big at *; omega)) (Has.some ⟨rfl,?_⟩);show zL encT (l++[w[i].token.text])<=_;have e3:zA (encT w[i].token.text)=1+w[i].token.text.length:=by simp only[zA,bPV];omega
   rw[kG hlt]at ht;rw[bi,ZK,Gh,e3];omega
  ·have e2:j1=_:=e2;subst e2;refine Has.some ⟨⟨i+1,hlt,e1,h2⟩,?_⟩;show w.length - (w64 ((i:Int)+1)).toNat<w.length - (i:Int).toNat;rw[e1];omega
 ·have hlen:l.length<=zL encT l:=Ag (fun y=>by simp[zA,bPV]) l;exact Has.bind (RX (x:=l) (by omega)) fun _ _=>Has.some hl2
theorem aN{v:List za}(hz:zV v+100<=big)(b:Bool):Has (Mx (v,b)) fun y=>zA (zG y.1)<=18+2*zV v/\y.1.rules=[]/\(b=false->y.1.kind=0\/y.1.kind=5):=by
 have hs:szL v<=zV v:=Ij v;have fin: ∀(k:Int) (ns:List (List Str)),zL encN ns<=2*zV v+6->zA (zG ⟨k,[],[],⟨0,[],0,⟨[],[],false⟩,[]⟩,ns,[]⟩)<=18+2*zV v:=fun k ns hn=>by rw[zR];show 5+0+0+zA (zu ⟨0,[],0,⟨[],[],false⟩,[]⟩)+zL encN ns+0<=_;rw[zNoC];omega
 have fin0: ∀k:Int,zA (zG ⟨k,[],[],⟨0,[],0,⟨[],[],false⟩,[]⟩,[],[]⟩)<=18+2*zV v:=fun k=>fin k [] (Ya _);unfold Mx;refine Has.eqb (sH (l:=v) (k:=18) (by omega)) ?_;obtain⟨w,hw⟩: ∃w,(if errS v=0 then(if(18:Int)<1\/(24:Int)<18 then([],(2:Int))else(Tf 18 v,0))else([],errS v))=w:=⟨_,rfl⟩;have hwz:zP w.1+6*w.1.length<=zV v+6:=by
  rw[<-hw];split
  ·rw[Ia (by decide)];exact nE 18 v
  ·exact Ya _
 rw[hw];refine Has.bif (fun _=>Has.some ⟨fin0 0,rfl,fun _=> .inl rfl⟩) fun h64=> ?_;refine Has.join (P:=fun j=> ∃k,j.2=(k,0,[],0,[],false)/\(b=false->k=5)) ?_ fun⟨j1,j2⟩ ⟨k,e,hk5⟩=> ?_
 ·refine Has.bif (fun hb=> ?_) fun _=>Has.some ⟨5,rfl,fun _=>rfl⟩;refine Has.eqb (GH (l:=v) (by omega)) ?_;exact Has.bif (fun _=>Has.some ⟨fin0 4,rfl,fun h=>by rw[h]at hb;cases hb⟩) fun _=>Has.some ⟨4,rfl,fun h=>by rw[h]at hb;cases hb⟩
 have e:j2=_:=e;subst e;have wl:w.1.length<=big:=by omega
 refine Has.loop (fun s=> ∃i:Nat,i<=w.1.length/\s.1=(i:Int)/\s.2.2.1=(k,0,[],0,[],false)/\zL encN s.2.2.2<=i+zP (w.1.take i)) (fun s=>w.1.length - s.1.toNat) (P:=fun s=>s.2.1=(k,0,[],0,[],false)/\zL encN s.2.2<=2*zV v+6)
  ⟨0,Ya _,rfl,rfl,Ya _⟩ (fun⟨s1,s2,s3,ns⟩ ⟨i,hi,e,e2,h1⟩=> ?_) fun⟨o1,o2,o3⟩ ⟨e,h1⟩=> ?_
 ·have e:s1=_:=e;have e2:s3=_:=e2;subst e e2;dsimp only at h1 ⊢;have hPm: ∀n,zP (w.1.take n)<=zP w.1:=fun n=>by have:=iy (w.1.take n) (w.1.drop n);rw[Yf]at this;omega
  have hp:=hPm i;refine Has.bif (fun hlt=> ?_) fun _=>Has.some ⟨rfl,by show zL encN ns<=_;omega⟩;have hlt:i<w.1.length:=by have:=Sb hlt;omega
  have e1:w64 ((i:Int)+1)=((i+1:Nat):Int):=Bi (by unfold big at *; omega);have e3:zP (w.1.take (i+1))=zP (w.1.take i)+zV w.1[i]:=by rw[Kc hlt,iy];rfl
  have hp1:=hPm (i+1);have hlen:ns.length<=zL encN ns:=Ag (fun y=>by rw[VS];omega) ns;refine Has.eqb (Zy hlt) ?_;refine Has.bind (zDe (v:=w.1[i]) (by omega)) fun y hy=> ?_;refine Has.bif (fun _=>Has.some ⟨fin0 0,rfl,fun _=> .inl rfl⟩) fun _=> ?_;refine Has.need (qg (by unfold big at *; omega)) (Has.some ⟨⟨i+1,hlt,e1,rfl,?_⟩,?_⟩)
  ·show zL encN (ns++[y.1])<=_;rw[bi,ZK,Gh,VS,e3];omega
  ·show w.1.length - (w64 ((i:Int)+1)).toNat<w.1.length - (i:Int).toNat;rw[e1];omega
 ·have e:o2=_:=e;subst e;exact Has.some ⟨fin k o3 h1,rfl,fun h=> .inr (hk5 h)⟩
theorem aK{α:Type}(p:α->Bool): ∀l:List α,(idxS p l<0/\l.takeWhile (fun a=> !p a)=l/\l.dropWhile (fun a=> !p a)=[])\/ ∃n:Nat,n<l.length/\idxS p l=(n:Int)/\l.take n=l.takeWhile (fun a=> !p a)/\l.drop n=l.dropWhile (fun a=> !p a)
 |[]=> .inl ⟨(by decide:(-1:Int)<0),rfl,rfl⟩
 |a::l=>by
  rw[idxS,List.takeWhile_cons,Nc];cases hp:p a with
  |true=>exact .inr ⟨0,by simp,rfl,by simp,by simp⟩
  |false=>
   simp only[Ca,Ua,Yd];rcases aK p l with⟨h1,h2,h3⟩|⟨n,h1,h2,h3,h4⟩
   ·rw[Ha h1,Da,h2,h3];exact .inl ⟨by decide,rfl,rfl⟩
   ·rw[Ta (by omega),Ca,h2];exact .inr ⟨n+1,by simp only[Ea];omega,rfl,by rw[Xd,h3],by rw[List.drop_succ_cons,h4]⟩
def inK(ks:Str)(a:za):Bool:=ks.any fun b=>a.token.kind==(b.toNat:Int)
theorem zDB{v:List za}{ks:Str}(hv:v.length<=big)(hk:ks.length<=big):EC (v,ks)=some (v.takeWhile (fun a=> !inK ks a),v.dropWhile (fun a=> !inK ks a)):=by
 have hc: ∀a:za,QK (a.token.kind,ks)=some (inK ks a):=fun a=>by
  unfold QK kI;refine Fs (sj ks (fun b=>a.token.kind==(b.toNat:Int)) hk (fun i hi=> ?_) ?_) (Yo _ _)
  ·simp only[qa hi,Da,jS hi,ZF,Lb,Sa hi,ze,Aa];rw[show decide ((0:Int)<=(i:Int))=true from Ha (by omega)];rfl
  ·simp only[ZU,Ca]
 have hi:qZ (v,ks)=some (idxS (inK ks) v):=by
  unfold qZ;refine sj v (inK ks) hv (fun i hi=> ?_) ?_
  ·simp only[qa hi,Da,Zy hi,OI,hc,ze,Aa]
  ·simp only[ZU,Ca]
 unfold EC;simp only[hi,ze,Aa];rcases aK (inK ks) v with⟨h1,h2,h3⟩|⟨n,h1,h2,h3,h4⟩
 ·rw[Ha h1,Da,h2,h3]
 ·rw[h2,Ta (by omega),Ca,Lb,h3,h4];have:(decide ((0:Int)<=(n:Int))&&decide ((n:Int)<=(v.length:Int)))=true:=by rw[Fa,Va,Va];omega
  rw[this];rfl
theorem UK(v:List za):iw v=some (ai v):=by
 unfold iw ai;cases v with
 |nil=>rfl
 |cons a r=> have e0:(((a::r).length:Int)==0)=false:=Ga.2 (by simp only[Ea];omega);have e1:geti (a::r) 0=some a:=rfl;simp only[e0,e1,Ca,ze,Aa]
def Wl(top:Bool)(a:za):Bool:=bif a.token.kind==13 then true else bif top then bif a.token.kind==14 then true else a.token.kind==15 else false
def Tn(v:List za):List za:=match v with
 |[]=>[]
 |a::r=>bif a.token.kind==3 then(r.dropWhile fun b=> !inK [23,17] b).tail else((a::r).dropWhile fun b=> !inK [23] b).tail
theorem jY(p:za->Bool)(a:za)(r:List za):(((a::r).dropWhile p).tail).length<=r.length:=by have h:=(jb p (l:=a::r)).length_le;rw[List.length_tail];rw[Ea]at h;omega
theorem JH(a:za)(r:List za):(Tn (a::r)).length<=r.length:=by
 show(bif a.token.kind==3 then(r.dropWhile fun b=> !inK [23,17] b).tail else((a::r).dropWhile fun b=> !inK [23] b).tail).length<=_;cases a.token.kind==3
 ·exact jY _ a r
 ·rw[Da];have h:=(jb (fun b=> !inK [23,17] b) (l:=r)).length_le;rw[List.length_tail];omega
def cntC:List za->Nat
 |[]=>0
 |a::r=>if Wl true a then cntC r else 1+cntC (Tn (a::r))
termination_by v=>v.length
decreasing_by
 ·simp
 ·have:=JH a r;simp only[Ea];omega
def okQ(q:zx):Prop:= ∃n:Nat,n<=64/\q.room=(n:Int)
theorem vE{q:zx}(h:okQ q)(h0:(q.room==0)=false)(c:Int):okQ ⟨w64 (q.room - 1),c⟩:=by
 obtain⟨n,h1,h2⟩:=h;have hn:n≠0:=fun e=>by subst e;rw[h2]at h0;cases h0
 refine⟨n - 1,by omega,?_⟩;show w64 (q.room - 1)=_;rw[h2,show(n:Int) - 1=((n - 1:Nat):Int) by omega];exact Ky (by unfold big;omega)
theorem zH8(ks:Str)(v:List za):zV (v.takeWhile fun a=> !inK ks a)+zV (v.dropWhile fun a=> !inK ks a)=zV v:=by show zL zg _+zL zg _=zL zg v;rw[<-bi,List.takeWhile_append_dropWhile]
theorem WL(D:List za)(p:zx)(o:List z8){R:Type}{Q:R->Prop}:Has (bif decide ((D.length:Int)>0)then need (decide (1<=(D.length:Int)))<|some (LX.out (List.drop 1 D,p,o))else some (LX.out (D,p,o)):Option (LX (List za×zx×List z8) R))
  (LXq (fun j=>j=(D.tail,p,o)) Q):=by
 rw[kv];cases D with
 |nil=>exact Has.some rfl
 |cons d t=>exact Has.need (Nr (by simp)) (Has.some rfl)
theorem Jk(r:z8):(⟨r.kind,r.selectors,r.decls,⟨r.cond.kind,r.cond.name,r.cond.num,r.cond.decl,r.cond.list⟩,r.names,r.rules⟩:z8)=r:=by obtain⟨k,s,d,⟨c1,c2,c3,c4,c5⟩,n,l⟩:=r;rfl
section
variable {S:(List za×Bool)×zx->Option (List z8×zx)} {N c:Nat}
variable (hS: ∀(l:List za) (q:zx),okQ q->q.constructs=(c:Int)->zV l<N->Has (S ((l,false),q)) fun y=>zL zG y.1<=6*zV l/\okQ y.2/\y.2.constructs=(c:Int)) (hN:40*N+200<=big)
include hS hN
theorem zDn{at_:Bool}{name:Str}{p:List za}{b:za}{q:zx}(hp:40*zV p+200<=big)(hb:zV b.list<N)(hq:okQ q)(h0:(q.room==0)=false)(hc:q.constructs=(c:Int)):
  Has (qQ S ((at_,name,p,b),q)) fun y=>zA (zG y.1.1)<=36+6*zV p+6*zV b.list/\okQ y.2/\y.2.constructs=(c:Int):=by
 have hz0:zA (zG noR)<=36+6*zV p+6*zV b.list:=by rw[zR];show 5+0+0+zA (zu ⟨0,[],0,⟨[],[],false⟩,[]⟩)+0+0<=_;rw[zNoC];omega
 unfold qQ;refine Has.join (P:=fun j=>j.2.1=q/\zA (zG j.2.2.2)<=36+6*zV p+zV b.list/\j.2.2.2.rules=[]/\((bif bif j.2.2.2.kind==2 then true else j.2.2.2.kind==3 then true else j.2.2.2.kind==4)=true->zA (zG j.2.2.2)<=36+6*zV p)) ?_ fun⟨j1,j2,j3,j4⟩ ⟨e,h1,h2,h3⟩=> ?_
 ·have hst: ∀k:Int,k=0\/k=1->(bif bif k==2 then true else k==3 then true else k==4)=false:=fun k hk=>by rcases hk with rfl|rfl<;>rfl
  refine Has.bif (fun _=> ?_) fun _=>Has.bif (fun _=> ?_) fun _=>Has.bif (fun _=> ?_) fun _=>Has.bif (fun _=> ?_) fun _=> ?_
  ·refine Has.bind (zBp (p:=p) (b:=b.list) (by omega) (by omega)) fun y ⟨g1,g2,g3⟩=>Has.some ?_;show q=q/\zA (zG (⟨y.1.kind,y.1.selectors,y.1.decls,⟨y.1.cond.kind,y.1.cond.name,y.1.cond.num,y.1.cond.decl,y.1.cond.list⟩,y.1.names,y.1.rules⟩:z8))<=_/\y.1.rules=[]/\((bif bif y.1.kind==2 then true else y.1.kind==3 then true else y.1.kind==4)=true->_);rw[Jk,hst _ g3];exact⟨rfl,by omega,g2,fun h=>nomatch h⟩
  ·refine Has.bind (aN (v:=p) (by omega) true) fun y ⟨g1,g2,_⟩=>Has.some ?_;show q=q/\zA (zG (⟨y.1.kind,y.1.selectors,y.1.decls,⟨y.1.cond.kind,y.1.cond.name,y.1.cond.num,y.1.cond.decl,y.1.cond.list⟩,y.1.names,y.1.rules⟩:z8))<=_/\y.1.rules=[]/\(_->zA (zG (⟨y.1.kind,y.1.selectors,y.1.decls,⟨y.1.cond.kind,y.1.cond.name,y.1.cond.num,y.1.cond.decl,y.1.cond.list⟩,y.1.names,y.1.rules⟩:z8))<=_);rw[Jk];exact⟨rfl,by omega,g2,fun _=>by omega⟩
  ·refine Has.eqb (zBN (x:=p) (show zV p<=big by omega)) (Has.some ?_);have g:=zFr p;have e:zA (zG (⟨2,[],[],⟨(Xj p).1.kind,(Xj p).1.name,(Xj p).1.num,(Xj p).1.decl,(Xj p).1.list⟩,[],[]⟩:z8))=5+0+0+zA (zu (Xj p).1)+0+0:=by rw[zR,Qz];rfl
   exact⟨rfl,by dsimp only;omega,rfl,fun _=>by dsimp only;omega⟩
  ·refine Has.eqb (PY (x:=p) (show 2*zV p<=big by omega)) (Has.some ?_);have g:=zIq p;have e:zA (zG (⟨3,[],[],⟨(supS p).1.kind,(supS p).1.name,(supS p).1.num,(supS p).1.decl,(supS p).1.list⟩,[],[]⟩:z8))=5+0+0+zA (zu (supS p).1)+0+0:=by rw[zR,Qz];rfl
   exact⟨rfl,by dsimp only;omega,rfl,fun _=>by dsimp only;omega⟩
  ·have e:zA (zG noR)=5+0+0+zA (zu ⟨0,[],0,⟨[],[],false⟩,[]⟩)+0+0:=zR _;rw[zNoC]at e;exact Has.some ⟨rfl,by show zA (zG noR)<=_;omega,rfl,fun h=>nomatch h⟩
 ·have e:j2=_:=e;subst e;refine Has.bif (fun _=>Has.some ⟨hz0,hq,hc⟩) fun _=> ?_;dsimp only at h1 h2 h3 ⊢;refine Has.join (P:=fun j=>okQ j.1/\j.1.constructs=(c:Int)/\zA (zG j.2.2)<=36+6*zV p+6*zV b.list) ?_ fun⟨k1,k2,k3⟩ ⟨h4,h5,h6⟩=> ?_
  ·refine Has.bif (fun hk=> ?_) fun _=>Has.some ⟨vE hq h0 _,hc,?_⟩
   ·refine Has.bind (hS _ _ (vE hq h0 _) hc hb) fun y ⟨g1,g2,g3⟩=>Has.some ⟨g2,g3,?_⟩;have h7:=h3 hk;rw[zR,h2]at h7;rw[zR];dsimp only;rw[Qz];have e0:zL zG ([]:List z8)=0:=rfl;omega
   ·dsimp only;rw[Jk];omega
  ·refine Has.some ⟨?_,h4,h5⟩;dsimp only at h6 ⊢;rw[Jk];exact h6
omit hS in
theorem zA2{at_:Bool}{name:Str}{p:List za}{q:zx}(hp:40*zV p+200<=big)(hq:okQ q)(h0:(q.room==0)=false)(hc:q.constructs=(c:Int)):
  Has (YD ((at_,name,p),q)) fun y=>zA (zG y.1.1)<=36+6*zV p/\okQ y.2/\y.2.constructs=(c:Int)/\(at_=false->y.1.2=false):=by
 have hz0:zA (zG noR)<=36+6*zV p:=by rw[zR];show 5+0+0+zA (zu ⟨0,[],0,⟨[],[],false⟩,[]⟩)+0+0<=_;rw[zNoC];omega
 have bf: ∀x:Bool,(bif x then false else false)=false:=fun x=>by cases x<;>rfl
 unfold YD;refine Has.join (P:=fun j=>j.2.1=q/\zA (zG j.2.2.2)<=36+6*zV p/\(at_=false->j.1=false)/\(j.1=true->(bif bif j.2.2.2.kind==2 then true else j.2.2.2.kind==3 then true else j.2.2.2.kind==4)=false)) ?_ fun⟨j1,j2,j3,j4⟩ ⟨e,h1,hat,h2⟩=> ?_
 ·refine Has.bif (fun h=>by rw[bf]at h;cases h) fun _=>Has.bif (fun hat=> ?_) fun _=>Has.bif (fun h=>by rw[bf]at h;cases h) fun _=>Has.bif (fun h=>by rw[bf]at h;cases h) fun _=> ?_
  ·refine Has.bind (aN (v:=p) (by omega) false) fun y ⟨g1,_,g2⟩=>Has.some ?_;show q=q/\zA (zG (⟨y.1.kind,y.1.selectors,y.1.decls,⟨y.1.cond.kind,y.1.cond.name,y.1.cond.num,y.1.cond.decl,y.1.cond.list⟩,y.1.names,y.1.rules⟩:z8))<=_/\(at_=false->y.2=false)/\(y.2=true->(bif bif y.1.kind==2 then true else y.1.kind==3 then true else y.1.kind==4)=false);rw[Jk];refine⟨rfl,by omega,fun h=> ?_,fun h=> ?_⟩
   ·subst h;cases hat
   rcases g2 rfl with h|h<;>(rw[h];rfl)
  ·exact Has.some ⟨rfl,hz0,fun _=>rfl,fun h=>nomatch h⟩
 ·have e:j2=_:=e;subst e;refine Has.bif (fun _=>Has.some ⟨hz0,hq,hc,fun _=>rfl⟩) fun hf=> ?_;have hj:j1=true:=by cases j1<;>first|rfl|cases hf
  refine Has.bif (fun h=>by rw[h2 hj]at h;cases h) fun _=>Has.some ⟨?_,vE hq h0 _,hc,fun h=>by have:=hat h;dsimp only at this;rw[hj]at this;cases this⟩;dsimp only at h1 ⊢;rw[Jk];exact h1
end
theorem uW {S:(List za×Bool)×zx->Option (List z8×zx)} {N c0 M:Nat} (hN:40*N+200<=big) (hM:M<=big)
  (hS: ∀(l:List za) (q:zx) (c:Nat),okQ q->q.constructs=(c:Int)->c+zV l<=M->zV l<N->Has (S ((l,false),q)) fun y=>zL zG y.1<=6*zV l/\okQ y.2/\y.2.constructs=(c:Int))
  {v:List za} {q:zx} (top:Bool) (hv:zV v<=N) (hq:okQ q) (hc:q.constructs=(c0:Int)) (hcM:c0+zV v<=M):
  Has (qb S ((v,top),q)) fun y=>zL zG y.1<=6*zV v/\okQ y.2/\y.2.constructs=((bif top then c0+cntC v else c0:Nat):Int):=by
 unfold qb;refine Has.loop (fun s=>okQ s.2.1/\zL zG s.2.2+6*zV s.1<=6*zV v/\ ∃c:Nat,s.2.1.constructs=(c:Int)/\c+zV s.1<=M/\(bif top then c+cntC s.1=c0+cntC v else c=c0)) (fun s=>s.1.length)
  (P:=fun s=>okQ s.1/\zL zG s.2<=6*zV v/\s.1.constructs=((bif top then c0+cntC v else c0:Nat):Int)) ⟨hq,by show 0+6*zV v<=6*zV v;omega,c0,hc,hcM,by cases top<;>rfl⟩ (fun⟨l,p,out⟩ ⟨g1,g2,c,g3,g4,g5⟩=> ?_) fun⟨p,out⟩ ⟨g1,g2,g3⟩=>Has.some ⟨g2,g1,g3⟩
 dsimp only at g1 g2 g3 g4 g5 ⊢;cases l with
 |nil=>
  refine Has.bif (fun h=>nomatch h) fun _=>Has.some ⟨g1,by show zL zG out<=_;omega,?_⟩;show p.constructs=_;rw[g3];cases top with
  |true=>rw[Da,cntC]at g5;rw[Da];omega
  |false=>rw[Ca]at g5 ⊢;omega
 |cons a r=>
  have hz:=Ph a r;have hlen:(a::r).length<=zV (a::r):=zLen _;have hlr:r.length<=zV r:=zLen _;have hb:big=4194304:=rfl;have ho:out.length<=zL zG out:=Ag BA out;rw[kv];refine Has.bif (fun _=> ?_) fun h=>nomatch h;refine Has.eqb (UK (a::r)) ?_;refine Has.bif (fun hs=> ?_) fun hs=> ?_
  ·have hs:Wl top a=true:=hs;refine Has.need (Nr (by simp)) (Has.some ⟨⟨g1,?_,c,g3,?_,?_⟩,?_⟩)
   ·show zL zG out+6*zV r<=_;omega
   ·show c+zV r<=M;omega
   ·cases top with
    |true=>rw[Da,cntC,Ka hs]at g5;exact g5
    |false=>exact g5
   ·show r.length<(a::r).length;simp
  ·have hs:Wl top a=false:=hs;have hcnt:cntC (a::r)=if Wl true a then cntC r else 1+cntC (Tn (a::r)):=by rw[cntC]
   refine Has.join (P:=fun j=>j.1=a::r/\okQ j.2.1/\j.2.2=out/\j.2.1.constructs=((bif top then c+1 else c:Nat):Int)) ?_ fun⟨j1,j2,j3⟩ ⟨e1,k1,e2,k2⟩=> ?_
   ·refine Has.bif (fun ht=>Has.some ⟨rfl,g1,rfl,?_⟩) fun ht=>Has.some ⟨rfl,g1,rfl,?_⟩
    ·have ht:top=true:=ht;subst ht;show w64 (p.constructs+1)=_;rw[g3];exact Bi (by omega)
    ·have ht:top=false:=ht;subst ht;exact g3
   have e1:j1=_:=e1;have e2:j3=_:=e2;subst e1 e2;dsimp only at k1 k2 ⊢
   -- the construct's values, behind its at-keyword
   refine Has.join (P:=fun j=> ∃x:List za,j.1.1=x/\okQ j.2.1/\j.2.2.1=j3/\j.2.1.constructs=((bif top then c+1 else c:Nat):Int)/\j.2.2.2.length<=2/\zV x<=zV (a::r)/\((a.token.kind==3)=true->zV x+6<=zV (a::r)/\x=r/\j.2.2.2=[23,17])/\((a.token.kind==3)=false->x=a::r/\j.2.2.2=[23])) ?_ fun⟨⟨i1,i2⟩,i3,i4,i5⟩ ⟨x,e3,m1,e4,m2,m3,m4,m5,m6⟩=> ?_
   ·refine Has.bif (fun hk=> ?_) fun hk=>Has.some ⟨a::r,rfl,k1,rfl,k2,Nat.le_succ 1,Ra _,fun h=>(by rw[show(a.token.kind==3)=false from hk]at h;cases h),fun _=>⟨rfl,rfl⟩⟩;refine Has.eqb (show geti (a::r) 0=some a from rfl) ?_;refine bLow (by omega) ?_;refine Has.need rfl (Has.need (Nr (by simp)) (Has.some ⟨r,rfl,k1,rfl,k2,Ra _,by omega,fun _=>⟨by omega,rfl,rfl⟩,fun h=>(by rw[show(a.token.kind==3)=true from hk]at h;cases h)⟩))
   have e3:i1=_:=e3;have e4:i4=_:=e4;subst e3 e4;dsimp only at g2 m1 m2 m3 m4 m5 m6 ⊢;have hxl:i1.length<=zV i1:=zLen _;refine Has.eqb (zDB (v:=i1) (ks:=i5) (by omega) (by omega)) ?_;have hcut:=zH8 i5 i1;have hrest:Tn (a::r)=(i1.dropWhile fun a=> !inK i5 a).tail:=by
    show(bif a.token.kind==3 then(r.dropWhile fun b=> !inK [23,17] b).tail else((a::r).dropWhile fun b=> !inK [23] b).tail)=_;cases hk:a.token.kind==3 with
    |true=>obtain⟨_,h1,h2⟩:=m5 hk;rw[Da,h1,h2]
    |false=>obtain⟨h1,h2⟩:=m6 hk;rw[Ca,h1,h2]
   have hrl:=JH a r;rw[hrest]at hrl;generalize hP:(i1.takeWhile fun a=> !inK i5 a)=P at hcut ⊢;generalize hD:(i1.dropWhile fun a=> !inK i5 a)=D at hcut hrest hrl ⊢
   -- what is left, and what is known of it
   have hD6:zV D.tail+6<=zV (a::r):=by
    cases D with
    |nil=>show 0+6<=_;omega
    |cons d t=>have:=Ph d t;show zV t+6<=_;omega
   have hlt:D.tail.length<(a::r).length:=by rw[Ea];omega
   have again: ∀(p':zx) (out':List z8),okQ p'->p'.constructs=((bif top then c+1 else c:Nat):Int)->zL zG out'+6*zV D.tail<=6*zV v->
     (okQ p'/\zL zG out'+6*zV D.tail<=6*zV v/\ ∃c:Nat,p'.constructs=(c:Int)/\c+zV D.tail<=M/\(bif top then c+cntC D.tail=c0+cntC v else c=c0))/\D.tail.length<(a::r).length:=fun p' out' n1 n2 n3=>by
    refine⟨⟨n1,n3,_,n2,?_,?_⟩,hlt⟩
    ·cases top with
     |true=>rw[Da];omega
     |false=>rw[Ca];omega
    ·cases top with
     |true=> rw[Da,hcnt,Ia (by rw[hs];decide),hrest]at g5;rw[Da,Da];omega
     |false=>exact g5
   have hP:zV P<=zV (a::r):=by omega
   have ho4:i4.length<=zL zG i4:=Ag BA i4;have out2: ∀x:z8,zL zG (i4++[x])=zL zG i4+zA (zG x):=fun x=>by rw[bi,ZK,Gh,Jc]
   refine Has.eqb (UK D) ?_;refine Has.bif (fun h23=> ?_) fun h23=> ?_
   ·cases D with
    |nil=>cases h23
    |cons d t=>
     have hd:=Ph d t;have e5:(d::t).tail=t:=rfl;refine Has.eqb (show geti (d::t) 0=some d from rfl) ?_;refine Has.join (WL (d::t) i3 i4) fun j e6=> ?_;subst e6;dsimp only;refine Has.bif (fun _=>Has.some (again i3 i4 m1 m2 (by rw[e5];omega))) fun h0=> ?_;refine Has.bind (zDn (S:=S) (N:=zV d.list+1) (c:=bif top then c+1 else c) (fun l q h1 h2 h3=>hS l q _ h1 h2 ?_ (by omega)) (by omega) (by omega) (by omega) m1 h0 m2) fun y ⟨n1,n2,n3⟩=> ?_
     ·cases top with
      |true=>rw[Da];omega
      |false=>rw[Ca];omega
     refine Has.bif (fun _=> ?_) fun _=>Has.some (again _ i4 n2 n3 (by rw[e5];omega));refine Has.need (qg (by omega)) (Has.some (again _ _ n2 n3 ?_));rw[e5,out2,Jk];omega
   ·refine Has.join (WL D i3 i4) fun j e6=> ?_;subst e6;dsimp only;have hDt:zV D.tail<=zV D:=yl (Xh D);refine Has.bif (fun _=>Has.some (again i3 i4 m1 m2 (by omega))) fun h0=> ?_;refine Has.bind (zA2 (N:=N) (c:=bif top then c+1 else c) hN (by omega) m1 h0 m2) fun y ⟨n1,n2,n3,n4⟩=> ?_;refine Has.bif (fun hf=> ?_) fun _=>Has.some (again _ i4 n2 n3 (by omega));have hk:(a.token.kind==3)=true:=by
     cases hk:a.token.kind==3 with
     |true=>rfl
     |false=>rw[n4 hk]at hf;cases hf
    have h6:=(m5 hk).1;refine Has.need (qg (by omega)) (Has.some (again _ _ n2 n3 ?_));rw[out2,Jk];omega
theorem zA3{v:List za}{q:zx}(top:Bool){c:Nat}(h1:40*zV v+200<=big)(hq:okQ q)(hc:q.constructs=(c:Int))(h2:c+zV v<=big):
  Has (zY ((v,top),q)) fun y=>zL zG y.1<=6*zV v/\okQ y.2/\y.2.constructs=((bif top then c+cntC v else c:Nat):Int):=by
 have h:=LA zfR (fun z=>zV z.1.1) (fun z=>40*zV z.1.1+200<=big/\okQ z.2/\ ∃c:Nat,z.2.constructs=(c:Int)/\c+zV z.1.1<=big)
  (fun z y=> ∀c:Nat,z.2.constructs=(c:Int)->zL zG y.1<=6*zV z.1.1/\okQ y.2/\y.2.constructs=((bif z.1.2 then c+cntC z.1.1 else c:Nat):Int))
  (fun S ⟨⟨v,top⟩,q⟩ ⟨h1,hq,c,hc,h2⟩ hS=>by
   dsimp only at h1 hq hc h2 hS ⊢;refine(uW (S:=S) (N:=zV v) (M:=big) h1 (Ra _) (fun l q c hq hc hM hl=> ?_) top (Ra _) hq hc h2).wk fun y hy c' hc'=> ?_
   ·exact Has.wk (hS ((l,false),q) ⟨by dsimp only;omega,hq,c,hc,hM⟩ hl) fun y hy=>hy c hc
   ·obtain rfl:c=c':=by rw[hc]at hc';exact Int.ofNat.inj hc'
    exact hy)
  (x:=((v,top),q)) ⟨h1,hq,c,hc,h2⟩
 exact Has.wk h fun y hy=>hy c hc
theorem aH: ∀(a b:List zk) (s:PSt),qy (a++b) s=(qy a s).bind (qy b)
 |[],_,_=>rfl
 |t::a,b,s=>by
  rw[Db,qy,qy];cases QB s t with
  |none=>rfl
  |some s1=>exact aH a b s1
def preS(p:List za):List (zk×List za)->List (zk×List za)
 |[]=>[]
 |[x]=>[(x.1,p++x.2)]
 |x::y::st=>x::preS p (y::st)
def preQ(p:List za)(s:PSt):PSt:=(if s.2=[]then p++s.1 else s.1,preS p s.2)
theorem yL(p:List za): ∀st,(preS p st).length=st.length
 |[]=>rfl
 |[x]=>rfl
 |x::y::st=>congrArg Nat.succ (yL p (y::st))
theorem zAJ(p:List za)(t:zk): ∀st,Al (preS p st) t=Al st t
 |[]=>rfl
 |[x]=>rfl
 |x::y::st=>rfl
theorem zFM(p:List za)(t:zk)(s:PSt):QB (preQ p s) t=(QB s t).map (preQ p):=by
 obtain⟨cur,st⟩:=s;unfold QB preQ;dsimp only;rw[zAJ,yL];by_cases h1:Al st t=true
 ·rw[Ka h1,Ka h1]
  match st with
  |[]=>cases h1
  |[x]=>show some (_++[_],_)=some _;simp[preQ,preS,Nk]
  |x::y::st=>rfl
 ·rw[Ia h1,Ia h1];by_cases h2:Zf t.kind≠0
  ·rw[Ka h2,Ka h2];by_cases h3:st.length=16
   ·rw[Ka h3,Ka h3];rfl
   ·rw[Ia h3,Ia h3]
    match st with
    |[]=>rfl
    |[x]=>rfl
    |x::y::st=>rfl
  ·rw[Ia h2,Ia h2]
   match st with
   |[]=>show some (_,_)=some _;simp[preQ,preS]
   |[x]=>rfl
   |x::y::st=>rfl
theorem vU(p:List za): ∀(l:List zk) (s:PSt),qy l (preQ p s)=(qy l s).map (preQ p)
 |[],_=>rfl
 |t::l,s=>by
  rw[qy,qy,zFM];cases QB s t with
  |none=>rfl
  |some s1=>exact vU p l s1
theorem EX{l:List zk}(h:(parS l).2=0)(hl:(tokL (parS l).1).length=l.length):qy l ([],[])=some ((parS l).1,[]):=by
 unfold parS at h hl ⊢;split at h
 ·cases h
 ·rename_i h1;rw[Ia h1]at hl ⊢;cases hr:qy l ([],[])with
  |none=>rw[hr]at h;cases h
  |some s=>
   rw[hr]at h hl;dsimp only at h hl ⊢;split at h
   ·cases h
   ·rename_i h2;rw[Ia h2]at hl ⊢;obtain⟨g1,g2⟩:=lN l hr (fun x hx=>by cases hx);have g3:=AP s.2 s.1 g1;have g4:Ji (([],[]):PSt)=0:=rfl;dsimp only at hl;have g5:s.2=[]:=Mf.1 (by rw[hl,show Ji (s.1,s.2)=Ji s from rfl]at g3;omega);obtain⟨cur,st⟩:=s;have g5:st=[]:=g5;subst g5;rfl
theorem XO{l m:List zk}{v:List za}(h:qy l ([],[])=some (v,[])):qy (l++m) ([],[])=(qy m ([],[])).map (preQ v):=by rw[aH,h,<-vU];show qy m (v,[])=qy m (preQ v ([],[]));unfold preQ;rw[Ka rfl,Ub];rfl
theorem YU{l:List zk}{v:List za}(h:qy l ([],[])=some (v,[])):parS l=if 1500<l.length then([],4)else(v,0):=by
 unfold parS;rw[h];dsimp only;split
 ·rfl
 ·rename_i h1;rw[Ia (by simpa using h1)];rfl
theorem fG: ∀{v:List za},(∃b∈v,Wl true b=false)->1<=cntC v
 |[],h=>by obtain⟨b,hb,_⟩:=h;cases hb
 |a::r,h=>by
  rw[cntC];split
  ·rename_i hs;obtain⟨b,hb,h1⟩:=h;rcases ja.1 hb with rfl|hb
   ·rw[hs]at h1;cases h1
   ·exact fG ⟨b,hb,h1⟩
  ·omega
theorem YP(p:za->Bool)(w:List za): ∀{v:List za},(∃b∈v,p b=false)->(v++w).dropWhile p=v.dropWhile p++w/\v.dropWhile p≠[]
 |[],h=>by obtain⟨b,hb,_⟩:=h;cases hb
 |a::r,h=>by
  rw[Db,Nc,Nc];cases ha:p a with
  |false=>exact⟨rfl,by simp⟩
  |true=>
   rw[Ka rfl,Ka rfl];obtain⟨b,hb,h1⟩:=h;rcases ja.1 hb with rfl|hb
   ·rw[ha]at h1;cases h1
   ·exact YP p w ⟨b,hb,h1⟩
def lastB(v:List za):Prop:=v=[]\/ ∃t b,v=t++[b]/\b.token.kind=23
theorem sG{a v:List za}(h:a<:+v)(hv:lastB v):lastB a:=by
 rcases jf a with rfl|⟨t,c,rfl⟩
 ·exact .inl rfl
 ·obtain⟨u,e⟩:=h;rw[Af,<-Ib]at e;rcases hv with rfl|⟨t',b,rfl,hb⟩
  ·simp at e
  ·have:=xe e rfl;rw[Af];exact .inr ⟨t,c,rfl,by rw[List.singleton_inj.1 this];exact hb⟩
theorem zAX{a:za}{r w:List za}(h:lastB (a::r))(hs:Wl true a=false)(h3:(a.token.kind==3)=true->r≠[]):Tn (a::r++w)=Tn (a::r)++w/\lastB (Tn (a::r)):=by
 have key: ∀(ks:Str) (v:List za),v≠[]->lastB v->inK ks ⟨⟨23,[],0,[],false⟩,[]⟩=true->((v++w).dropWhile fun b=> !inK ks b).tail=(v.dropWhile fun b=> !inK ks b).tail++w/\lastB (v.dropWhile fun b=> !inK ks b).tail:=fun ks v hv hl hk=>by
  rcases hl with rfl|⟨t,b,rfl,hb⟩
  ·exact absurd rfl hv
  ·have hin:(!inK ks b)=false:=by
    have:inK ks b=inK ks ⟨⟨23,[],0,[],false⟩,[]⟩:=by unfold inK;rw[hb]
    rw[this,hk];rfl
   obtain⟨h1,h2⟩:=YP (fun b=> !inK ks b) w (v:=t++[b]) ⟨b,by simp,hin⟩;rw[h1];refine⟨by cases hq:(t++[b]).dropWhile (fun b=> !inK ks b)with|nil=>exact absurd hq h2|cons x y=>rfl,?_⟩;exact sG ((List.tail_suffix _).trans (List.dropWhile_suffix _)) (.inr ⟨t,b,rfl,hb⟩)
 show(bif a.token.kind==3 then((r++w).dropWhile fun b=> !inK [23,17] b).tail else((a::r++w).dropWhile fun b=> !inK [23] b).tail)=(bif a.token.kind==3 then(r.dropWhile fun b=> !inK [23,17] b).tail else((a::r).dropWhile fun b=> !inK [23] b).tail)++w/\lastB (bif a.token.kind==3 then(r.dropWhile fun b=> !inK [23,17] b).tail else((a::r).dropWhile fun b=> !inK [23] b).tail);cases hk:a.token.kind==3 with
 |true=>exact key _ r (h3 hk) (sG (Gd a r) h) rfl
 |false=>exact key _ (a::r) (by simp) h rfl
theorem zB8(w:List za): ∀{v:List za},lastB v->cntC (v++w)=cntC v+cntC w:=by
 intro v;generalize hn:v.length=n
 induction n using Nat.strongRecOn generalizing v with
 |_ n ih=>
  intro hv;subst hn;cases v with
  |nil=>rw[Mc,cntC];omega
  |cons a r=>
   rw[Db,cntC,cntC];have hr:lastB r:=sG (Gd a r) hv;split
   ·exact ih r.length (by simp) rfl hr
   ·rename_i hs;have hs:Wl true a=false:=Bool.eq_false_iff.2 hs;have h3:(a.token.kind==3)=true->r≠[]:=fun hk e=>by
     subst e;rcases hv with hv|⟨t,b,e,hb⟩
     ·cases hv
     ·cases t with
      |nil=>
       rw[Mc]at e;rw[List.singleton_inj.1 e,hb]at hk;cases hk
      |cons x y=>simp at e
    obtain⟨h1,h2⟩:=zAX (w:=w) hv hs h3;have h4:=JH a r;rw[show a::(r++w)=a::r++w from rfl,h1,ih _ (by rw[Ea];omega) rfl h2];omega
def Iy(s:Str)(n:Nat)(sp:List Zu)(R:Str):Prop:= ∃ts:List zk,run s ts R/\ts.length=n/\sp.length=n/\(n=0\/ ∃l0 R0 c r sq b,ts=l0++[(QH (c::r)).1]/\run s l0 R0/\cmtS R0=c::r/\R=(QH (c::r)).2/\sp=sq++[⟨b,(beh s R:Int)⟩])
theorem zAS{s:Str}(hs:s.length<=40000):Has (
  Zp (fun(s3:Int×List Zu×zb)=>
    bif decide (s3.2.2.at_<(s.length:Int))then
     bif decide (w64 (s3.1+1)>1500)then
      some (LO.ret (4,s3.2.1))
     else
      ze (qC s3.2.2) fun y4=>
      ze (VD ((y4.1,s3.2.2.at_,y4.2.at_),s3.2.1)) fun y5=>
      ze (ZB y4.2) fun y6=>
      some (LO.again (w64 (s3.1+1),y5,y6))
    else
     some (LO.out (s3.2.1,s3.2.2)):Int×List Zu×zb->Option (LO (Int×List Zu×zb) (List Zu×zb) (Int×List Zu))) (0,[],sr s (cmtS s)) fun o7=>
  some (0,o7.1)) fun z=>z.1=0-> ∃n R,Iy s n z.2 R/\cmtS R=[]:=by
 refine Has.loop (fun z=> ∃(n:Nat) (sp:List Zu) (R:Str),z=((n:Int),sp,sr s (cmtS R))/\R<:+s/\n<=1500/\Iy s n sp R) (fun z=>s.length - z.2.2.at_.toNat) (P:=fun o=> ∃n R,Iy s n o.1 R/\cmtS R=[]) ⟨0,[],s,rfl,Ce s,by omega,[],rfl,rfl,rfl, .inl rfl⟩ ?_ fun o ho=>Has.some fun _=>ho;rintro _ ⟨n,sp,R,rfl,hR,hn,ts,h1,h2,h3,h4⟩;dsimp only;have hq:cmtS R<:+s:=(Uh R).trans hR;have hle:=hq.length_le;refine Has.bif (fun hat=> ?_) fun hat=> ?_
 ·have hw:w64 ((n:Int)+1)=((n+1:Nat):Int):=by rw[Ql (by omega) (by omega)];omega
  rw[hw];refine Has.bif (fun _=>Has.some fun h=>nomatch h) fun hm=> ?_;have hm:=of_decide_eq_false hm;cases hc:cmtS R with
  |nil=> have:=Sb hat;rw[hc]at this;unfold beh at this;rw[Xa]at this;omega
  |cons c r=>
   rw[hc,Ea]at hle;have hs2:(QH (c::r)).2<:+s:=(Kl c r).trans (Pi (hc▸hq));refine Has.eqb (xR hs (hc▸hq) rfl) ?_;unfold VD;refine Has.bind (Has.need (qg (by dsimp only;omega)) (Has.some rfl):Has _ fun y=>y=sp++[⟨(beh s (c::r):Int),(beh s (QH (c::r)).2:Int)⟩]) fun y5 e5=> ?_;subst e5;refine Has.eqb (MB hs hs2) (Has.some ⟨⟨n+1,_,_,rfl,hs2,by omega,ts++[(QH (c::r)).1],?_,?_,?_, .inr ⟨ts,R,c,r,sp,_,rfl,h1,hc,rfl,rfl⟩⟩,?_⟩)
   ·exact uL h1 ⟨c,r,hc,rfl,rfl⟩
   ·rw[La,h2];rfl
   ·rw[La,h3];rfl
   ·have h5:=(Kl c r).length_le;have h6:=(Uh (QH (c::r)).2).length_le;show s.length - beh s (cmtS (QH (c::r)).2)<s.length - beh s (c::r);unfold beh;rw[Ea];omega
 ·refine Has.some ⟨n,R,⟨ts,h1,h2,h3,h4⟩,?_⟩;have:=of_decide_eq_false hat;unfold beh at this;exact Mf.1 (by omega)
theorem OH(w:Str):ni w=some (if 4000<w.length then([],28)else(Proofs.Cl.cleanS w,0)):=by unfold ni;split<;>rfl
theorem pV(w:Str):Has (jB w) fun z=>z.2=0-> ∃n R,Iy (Proofs.Cl.cleanS w) n z.1 R/\cmtS R=[]:=by
 unfold jB EI;by_cases hl:4000<w.length
 ·rw[OH,Ka hl];exact Has.bind (P:=fun y=>y=(28,[])) (Has.some rfl) fun y e=>by subst e;exact Has.some fun h=>nomatch h
 ·rw[OH,Ia hl];have hs:=NB w;have hs:(Proofs.Cl.cleanS w).length<=40000:=by omega
  refine Has.bind (P:=fun z=>z.1=0-> ∃n R,Iy (Proofs.Cl.cleanS w) n z.2 R/\cmtS R=[]) ?_ fun y hy=>Has.bif (fun h=>Has.some fun h0=> ?_) fun h=>Has.some fun _=>hy (by simpa using h)
  ·refine Has.eqb rfl ?_;dsimp only;refine Has.bif (fun h=>nomatch h) fun _=> ?_;rw[sr_0];exact Has.eqb (MB hs (Ce _)) (zAS hs)
  ·have h0:y.1=0:=h0;rw[h0]at h;cases h
theorem OV{l:List zk}{t:zk}{v:List za}{b:za}(h:qy (l++[t]) ([],[])=some (v++[b],[]))(hb:b.token.kind=23):t.kind=24:=by
 rw[aH]at h;cases hs:qy l ([],[])with
 |none=>rw[hs]at h;cases h
 |some s=>
  rw[hs,Aa,qy]at h;obtain⟨cur,st⟩:=s;unfold QB at h;dsimp only at h;split at h
  ·rename_i h1
   match st,h1,h with
   |(o,out)::st,h1,h=> have h:some ((out++[⟨o,cur⟩],st):PSt)=some (v++[b],[]):=h;injection h with h;injection h with h2 h3;have h4:=List.singleton_inj.1 (xe h2 rfl);subst h4;have hb:o.kind=23:=hb;have h1:(t.kind==Zf o.kind)=true:=h1;rw[hb]at h1;exact Ob.1 h1
  ·split at h
   ·split at h
    ·cases h
    ·have h:some (([],(t,cur)::st):PSt)=some (v++[b],[]):=h;injection h with h;injection h with _ h3;cases h3
   ·rename_i h1 h2;have h:some ((cur++[⟨t,[]⟩],st):PSt)=some (v++[b],[]):=h;injection h with h;injection h with h4 _;have h5:=List.singleton_inj.1 (xe h4 rfl);subst h5;have hb:t.kind=23:=hb;rw[hb]at h2;exact absurd (by decide) h2
theorem zG6(c:UInt8)(h:Cg c=24):c=125:=by
 have: ∀n:Nat,n<256->Cg (UInt8.ofNat n)=24->UInt8.ofNat n=125:=by decide+kernel
 have:=this c.toNat (Uc c);rw[Te]at this;exact this h
theorem zHb{c:UInt8}{r:Str}(h:(QH (c::r)).1.kind=24):c=125/\(QH (c::r)).2=r:=by have hb:=zEt c r;rw[h]at hb;have hb:brS c r=9:=hb.symm;rw[Co,hb,wD]at h ⊢;exact⟨zG6 c h,rfl⟩
structure Closed (w:Str):Prop where
 len:w.length<=4000
 tok:(ZE w).2=0
 par:qy (QS (Proofs.Cl.cleanS w)) ([],[])=some ((parS (ZE w).1).1,[])
 last: ∃t b,(parS (ZE w).1).1=t++[b]/\b.token.kind=23
 run: ∃l0 R0,run (Proofs.Cl.cleanS w) l0 R0/\cmtS R0=[125]
theorem tok0{w:Str}(h:(ZE w).2=0):w.length<=4000/\(QS (Proofs.Cl.cleanS w)).length<=1500/\(ZE w).1=QS (Proofs.Cl.cleanS w):=by
 unfold ZE at h ⊢;split at h
 ·cases h
 ·rename_i h1;split at h
  ·cases h
  ·rename_i h2;rw[Ia h1,Ia h2];exact⟨by omega,by omega,rfl⟩
theorem zIo{α:Type}{l:List α}(h:((l.length:Int)==0)=false): ∃t x,l=t++[x]:=by
 rcases jf l with rfl|⟨t,x,rfl⟩
 ·cases h
 ·exact⟨t,x,Af⟩
theorem NL{α:Type}{t:List α}{x:α}(h:(t++[x]).length<=big):geti (t++[x]) (w64 (((t++[x]).length:Int) - 1))=some x:=by have hb:big=4194304:=rfl;rw[La,Lc]at h ⊢;rw[show w64 (((t.length+1:Nat):Int) - 1)=(t.length:Int) by rw[Ql (by omega) (by omega)];omega];rw[Zy (by simp)];simp
theorem nW{w:Str}(hw:w.length<=4000):Has (XC w) fun z=>z.2=true->Closed w:=by
 have hsz:=rU (ZE w).1;have hbig:big=4194304:=rfl;unfold XC;refine Has.eqb (OH w) ?_;rw[Ia (by omega)];refine Has.eqb (tN w) (Has.bind (pV w) fun sp hsp=>Has.eqb (show parseF (ZE w).1=some (parS (ZE w).1)from rfl) ?_);dsimp only;refine Has.bif (fun _=>Has.some fun h=>nomatch h) fun hf=> ?_;have e1:((0:Int) != 0)=false:=rfl;rw[e1,Ca]at hf;obtain⟨h1,h2,h3,h4,h5⟩:(ZE w).2=0/\sp.2=0/\(parS (ZE w).1).2=0/\((((parS (ZE w).1).1.length:Nat):Int)==0)=false/\((sp.1.length:Int)==0)=false:=by
  cases h1:(ZE w).2 != 0 with
  |true=>rw[h1]at hf;cases hf
  |false=>
   cases h2:sp.2 != 0 with
   |true=>rw[h1,h2]at hf;cases hf
   |false=>
    cases h3:(parS (ZE w).1).2 != 0 with
    |true=>rw[h1,h2,h3]at hf;cases hf
    |false=>
     cases h4:(((parS (ZE w).1).1.length:Nat):Int)==0 with
     |true=>rw[h1,h2,h3,h4]at hf;cases hf
     |false=>rw[h1,h2,h3,h4]at hf;exact⟨by simpa using h1,by simpa using h2,by simpa using h3,rfl,hf⟩
 obtain⟨_,g2,g3⟩:=tok0 h1;have hc3:=NB w;have hwt:wtT (ZE w).1<=60000:=by rw[g3];have:=xJ (Proofs.Cl.cleanS w);omega
 have hvl:=Rh (parS (ZE w).1).1;obtain⟨n,R,⟨ts,r1,r2,r3,r4⟩,r5⟩:=hsp h2;have hts:QS (Proofs.Cl.cleanS w)=ts:=by rw[KA r1,Uo r5,Ub]
 obtain⟨vt,vb,hv⟩:=zIo h4;have hn:n≠0:=fun e=>by rw[r3,e]at h5;cases h5
 obtain⟨l0,R0,c,r,sq,b,q1,q2,q3,q4,q5⟩:=r4.resolve_left hn;have hsl:sp.1.length<=1500:=by rw[r3,<-r2,<-hts];exact g2
 refine Has.eqb (show geti sp.1 _=some ⟨b,(beh (Proofs.Cl.cleanS w) R:Int)⟩ by rw[q5]at hsl ⊢;exact NL (by omega)) ?_;dsimp only;refine Has.bind (P:=fun y=>((beh (Proofs.Cl.cleanS w) R:Int)==((Proofs.Cl.cleanS w).length:Int))=true->y=vb) (Has.cond (fun _=>⟨vb,?_,fun _=>rfl⟩) fun h h'=>by rw[h]at h';cases h') fun y6 e6=> ?_
 ·rw[hv];exact NL (by rw[<-hv];omega)
 refine Has.bind (P:=fun y=>(bif (beh (Proofs.Cl.cleanS w) R:Int)==((Proofs.Cl.cleanS w).length:Int)then y6.token.kind==23 else false)=true->y=tokL (parS (ZE w).1).1) (Has.cond (fun _=>⟨_,vW (by omega),fun _=>rfl⟩) fun h h'=>by rw[h]at h';cases h') fun y7 e7=> ?_;refine Has.some fun ht=> ?_;dsimp only at ht;cases hc:(beh (Proofs.Cl.cleanS w) R:Int)==((Proofs.Cl.cleanS w).length:Int)with
 |false=>rw[hc]at ht;cases ht
 |true=>
  have e6:=e6 hc;subst e6;rw[hc]at ht e7;cases hk:y6.token.kind==23 with
  |false=>rw[hk]at ht;cases ht
  |true=>
   rw[hk]at ht e7;have e7:=e7 rfl;subst e7;have ht:(((tokL (parS (ZE w).1).1).length:Int)==((ZE w).1.length:Int))=true:=ht;have hpar:=EX h3 (by have:=Ob.1 ht;omega);rw[g3,hts,q1]at hpar;have hk:=Ob.1 hk;have hR:R=[]:=by
    have h6:=(Jo r1).length_le;have h7:=Ob.1 hc;unfold beh at h7;exact Mf.1 (by
     have:0<(Proofs.Cl.cleanS w).length:=by have h8:=(Uh R0).length_le;have h9:=(Jo q2).length_le;rw[q3,Ea]at h8;omega
     omega)
   rw[<-q1,<-hts,<-g3,hv]at hpar;refine⟨hw,h1,by rw[<-g3,hv];exact hpar,⟨vt,y6,hv,hk⟩,l0,R0,q2,?_⟩;rw[g3,hts,q1]at hpar;have h24:=OV (by rw[<-g3]at hts;exact hpar) hk;obtain⟨d1,d2⟩:=zHb h24;rw[q3,d1];rw[d2]at q4;rw[<-q4,hR]
theorem Ll{X R:Type}{step:Int->Option (LO Int X R)}{k:X->Option R}(n:Nat)(x:X)(h: ∀i,i<n->step (i:Int)=some (.again ((i+1:Nat):Int)))(hf:step (n:Int)=some (.out x)):Zp step 0 k=k x:=by
 refine(zCN (List.replicate n ()) (fun i (_:Unit)=>(i:Int)) (fun v (_:Unit)=>some (.again ())) (fun _=>some (.out x)) (a:=()) rfl (fun i a hi=> ?_) (fun a=> ?_) (r:= .out x) ?_)
 ·rw[h i (by simpa using hi)];rfl
 ·rw[List.length_replicate,hf];rfl
 ·rw[Ap (fun a v=>a) (fun v a=>rfl)]
theorem zCr(r:z8):(⟨r.kind,r.selectors,r.decls,r.cond,r.names,r.rules⟩:z8)=r:=by cases r;rfl
theorem zH1(l:List (List Str)):l.length<=zL (fun l:List Str=>[.sl (l.map fun y=>[.str y])]) l/\ ∀n∈l,n.length<=zL (fun l:List Str=>[.sl (l.map fun y=>[.str y])]) l/\ ∀s∈n,s.length<=zL (fun l:List Str=>[.sl (l.map fun y=>[.str y])]) l:=by
 have h1: ∀n:List Str,n.length<=zL (fun y:Str=>[.str y]) n:=Ag (fun y=>by simp[zA,bPV]);have h2: ∀n:List Str,zA [.sl (n.map fun y=>[.str y])]=1+zL (fun y:Str=>[.str y]) n:=pE;refine⟨Ag (fun v=>by rw[h2];omega) l,fun n hn=> ?_⟩;have hm:=Ah (f:=fun l:List Str=>[.sl (l.map fun y=>[.str y])]) hn;have h3:=h2 n;have h4:=h1 n;refine⟨by omega,fun s hs=> ?_⟩;have h5:=Ah (f:=fun y:Str=>[.str y]) hs;have h6:zA [PV.str s]=1+s.length\/zA [PV.str s]=s.length:=by simp only[zA,bPV];omega
 omega
theorem vM{r y:z8}(h:y∈r.rules):zA (zG y)<zA (zG r):=by have hz:=Bw r;have:=Ah (f:=zG) h;omega
theorem zIk{a:List za}(h:szL a<=big):Ul (a,a)=some true:=by
 refine Pj (fun x:List za×List za=>szL x.1) (fun x=>szL x.1<=big/\x.1=x.2) (fun x=>true) (fun S x hl hS=> ?_) (show szL (a,a).1<=big/\(a,a).1=(a,a).2 from⟨h,rfl⟩);obtain⟨l,l'⟩:=x;obtain⟨hl,he⟩:=hl;simp only at hl hS he;subst he;unfold UC;have hlen:=Rh l;have hne:((l.length:Int) != (l.length:Int))=false:=by simp
 simp only[hne,Ca];refine Ll l.length () (fun i hi=> ?_) ?_
 ·have hsz:=Jm (Pb hi);have hv2:=Ii l[i];have hs1:szL l[i].list<=big:=by omega
  have hs2:szL l[i].list<szL l:=by omega
  have hSq:S (l[i].list,l[i].list)=some true:=hS (l[i].list,l[i].list) ⟨hs1,rfl⟩ hs2;simp[hi,Zy hi,hSq,ZI hi (by omega)]
 ·simp only[ZU,Ca]
theorem yT{d:Zh}(h:zL zg d.value<=big):Ut (d,d)=some true:=by unfold Ut;have:=Ij d.value;have e1:(d.name==d.name)=true:=Be _;have e2:(d.important==d.important)=true:=Be _;simp only[e1,e2,Da,Zl,zIk (show szL d.value<=big by omega),ze,Aa]
theorem zIl{l:List Zh}(h:zL ZC l<=big):kw (l,l)=some true:=by
 unfold kw;have hlen:=Ag yA l;have hne:((l.length:Int) != (l.length:Int))=false:=by simp
 simp only[hne,Ca];refine Ll l.length () (fun i hi=> ?_) ?_
 ·have hsz:=Ah (f:=ZC) (Pb hi);have hv2:=Q7 l[i];have h1:Ut (l[i],l[i])=some true:=yT (by omega);simp[hi,Zy hi,h1,ZI hi (by omega)]
 ·simp only[ZU,Ca]
theorem zHH{c:zt}(h:zA (zu c)<=big):Ak (c,c)=some true:=by
 refine Pj (fun x:zt×zt=>zA (zu x.1)) (fun x=>zA (zu x.1)<=big/\x.1=x.2) (fun x=>true) (fun S x hl hS=> ?_) (show zA (zu (c,c).1)<=big/\(c,c).1=(c,c).2 from⟨h,rfl⟩);obtain⟨c,c'⟩:=x;obtain⟨hl,he⟩:=hl;simp only at hl hS he;subst he;unfold NC;have hlen:=JO c;have hd:=KO c;rw[Q7]at hd;have e1:(c.kind != c.kind)=false:=by simp
 have e2:(c.name==c.name)=true:=Be _;have e3:(c.num != c.num)=false:=by simp
 have e4:((c.list.length:Int) != (c.list.length:Int))=false:=by simp
 simp only[e1,e2,e3,e4,Ca,Eb,Ua,Zl,yT (show zL zg c.decl.value<=big by omega),ze,Aa];refine Ll c.list.length () (fun i hi=> ?_) ?_
 ·have hsz:=oG (Pb hi);have hSq:S (c.list[i],c.list[i])=some true:=hS (c.list[i],c.list[i]) ⟨by show zA (zu c.list[i])<=big;omega,rfl⟩ hsz;simp[hi,Zy hi,hSq,ZI hi (by omega),Qz]
 ·simp only[ZU,Ca]
theorem zIm{l:List zq}(h:zL zy l<=big):ZP (l,l)=some true:=by
 refine Pj (fun x:List zq×List zq=>zL zy x.1) (fun x=>zL zy x.1<=big/\x.1=x.2) (fun x=>true) (fun S x hl hS=> ?_) (show zL zy (l,l).1<=big/\(l,l).1=(l,l).2 from⟨h,rfl⟩);obtain⟨l,l'⟩:=x;obtain⟨hl,he⟩:=hl;simp only at hl hS he;subst he;unfold SC;have hlen:=Ag sw l;have hne:((l.length:Int) != (l.length:Int))=false:=by simp
 simp only[hne,Ca];have hsimp: ∀q:List zF,zL zW q<zL zy l->dD S (q,q)=some true:=by
  intro q hq;unfold dD;have hq1:=Ag EB q;have hne:((q.length:Int) != (q.length:Int))=false:=by simp
  simp only[hne,Ca];refine Ll q.length () (fun i hi=> ?_) ?_
  ·have hsz:=Ah (f:=zW) (Pb hi);have hv2:=Rm q[i];have h1:S (q[i].list,q[i].list)=some true:=hS (q[i].list,q[i].list) ⟨by show zL zy q[i].list<=big;omega,rfl⟩ (by show zL zy q[i].list<_;omega);simp only[Ha (show(i:Int)<(q.length:Int) by omega),Da,Zy hi,ze,Aa,OC,Be,Bool.and_self,Eb,Ua,Zl,h1,Ca,ZI hi (by omega)]
  ·simp only[ZU,Ca]
 refine Ll l.length () (fun i hi=> ?_) ?_
 ·have hsz:=Ah (f:=zy) (Pb hi);have hv2:=yo l[i];have hlp:=Ag Dx l[i].parts;have h1:JC S (l[i],l[i])=some true:=by
   unfold JC;have e1:(l[i].lead != l[i].lead)=false:=by simp
   have e2:((l[i].parts.length:Int) != (l[i].parts.length:Int))=false:=by simp
   have e3:(l[i].combs==l[i].combs)=true:=Be _;simp only[e1,e2,e3,Ca,Eb];refine Ll l[i].parts.length () (fun j hj=> ?_) ?_
   ·have hsz2:=Ah (f:=zX) (Pb hj);have hv3:=Rp l[i].parts[j];have h1:=hsimp l[i].parts[j].simples (by omega);simp[hj,Zy hj,h1,ZI hj (by omega),ze]
   ·simp only[ZU,Ca]
  have eta:(⟨l[i].lead,l[i].parts,l[i].combs⟩:zq)=l[i]:=by cases l[i];rfl
  simp[hi,Zy hi,eta,h1,ZI hi (by omega),ze]
 ·simp only[ZU,Ca]
theorem zIn{l:List (List Str)}(hl:l.length<=big)(h: ∀n∈l,n.length<=big):yx (l,l)=some true:=by
 unfold yx;have hne:((l.length:Int) != (l.length:Int))=false:=by simp
 simp only[hne,Ca];refine Ll l.length () (fun i hi=> ?_) ?_
 ·have h2:=h l[i] (Pb hi);have hne:((l[i].length:Int) != (l[i].length:Int))=false:=by simp
  simp only[Ha (show(i:Int)<(l.length:Int) by omega),Da,Zy hi,ze,Aa,hne,Ca];refine(Ll l[i].length () (fun j hj=> ?_) ?_).trans ?_
  ·simp[hj,Zy hj,ZI hj h2]
  ·simp only[ZU,Ca]
  ·rw[ZI hi hl]
 ·simp only[ZU,Ca]
theorem zF4{S:z8×z8->Option Bool}{l:List z8}(hl:l.length<=big)(hS: ∀y∈l,S (y,y)=some true):jw S (l,l)=some true:=by
 unfold jw;have hne:((l.length:Int) != (l.length:Int))=false:=by simp
 simp only[hne,Ca];refine Ll l.length () (fun i hi=> ?_) ?_
 ·simp only[Ha (show(i:Int)<(l.length:Int) by omega),Da,Zy hi,ze,Aa,Qz,zCr,hS _ (Pb hi),Eb,Ca,ZI hi hl]
 ·simp only[ZU,Ca]
theorem sM{r:z8}(h:zA (zG r)<=big):ZV (r,r)=some true:=by refine Pj (fun x:z8×z8=>zA (zG x.1)) (fun x=>zA (zG x.1)<=big/\x.1=x.2) (fun x=>true) (fun S x hl hS=> ?_) (show zA (zG (r,r).1)<=big/\(r,r).1=(r,r).2 from⟨h,rfl⟩);obtain⟨l,l'⟩:=x;obtain⟨hl,he⟩:=hl;simp only at hl hS he;subst he;unfold vC;have hv2:=Bw l;have hn:=zH1 l.names;have hlr:=Ag BA l.rules;have e1:(l.kind==l.kind)=true:=Be _;have g1:ZP (l.selectors,l.selectors)=some true:=zIm (by omega);have g2:kw (l.decls,l.decls)=some true:=zIl (by omega);have g3:Ak (l.cond,l.cond)=some true:=zHH (by omega);have g4:yx (l.names,l.names)=some true:=zIn (by omega) (fun n hm=>by have:=(hn.2 n hm).1;omega);have g5:jw S (l.rules,l.rules)=some true:=zF4 (by omega) fun y hy=>hS (y,y) ⟨by have:=vM hy;show zA (zG y)<=big;omega,rfl⟩ (vM hy);simp only[e1,Zl,g1,ze,Aa,Da,g2,Qz,g3,g4,g5]
theorem Aw: @Np fuK ()=some true:=by decide+kernel
theorem zIv: ∀l:List za,zV l<=6*szL l:=by
 have key: ∀(n:Nat) (l:List za),szL l<n->zV l<=6*szL l:=by
  intro n
  induction n with
  |zero=>intro l h;omega
  |succ n ih=>
   intro l
   induction l with
   |nil=>intro _;exact Ya _
   |cons v l ihl=> intro h;rw[szL,Ii]at h ⊢;rw[Ph];have h1:=ih v.list (by omega);have h2:=ihl (by omega);omega
 exact fun l=>key _ l (Ke _)
theorem zGo{w:Str}(hw:w.length<=610):zV (parS (ZE w).1).1<=54900:=by
 have h1:=zIv (parS (ZE w).1).1;have h2:=rU (ZE w).1;have h3:wtT (ZE w).1<=5*(Proofs.Cl.cleanS w).length:=by
  have:=xJ (Proofs.Cl.cleanS w);unfold ZE;split
  ·exact Ya _
  ·split
   ·exact Ya _
   ·exact this
 have h4:=NB w;omega
theorem oN{w:Str}(hw:w.length<=610):
  (∃e,(e != 0)=true/\qG w=some (noR,e)/\wm w=some (⟨[]⟩,e)/\((ZE w).2=e\/(ZE w).2=0/\(parS (ZE w).1).2=e))\/
  ((ZE w).2=0/\(parS (ZE w).1).2=0/\ ∃L,zL zG L<=big/\wm w=some (⟨L⟩,0)/\
   (qG w=some (noR,12)\/ ∃r,L=[r]/\cntC (parS (ZE w).1).1=1/\qG w=some (r,0))):=by
 have hp:parseF (ZE w).1=some (parS (ZE w).1):=rfl;have hbig:big=4194304:=rfl;unfold qG wm Ot Pt Px Rx WB KC;simp only[tN,hp,ze,Aa];cases h1:(ZE w).2==0 with
 |false=>
  have h1':((ZE w).2 != 0)=true:=by rw[bne,h1];rfl
  simp only[h1',Ua,Da,Aa];exact .inl ⟨_,h1',rfl,rfl, .inl rfl⟩
 |true=>
  have h1':((ZE w).2 != 0)=false:=by rw[bne,h1];rfl
  simp only[h1',Eb,Ca];cases h2:(parS (ZE w).1).2==0 with
  |false=>
   have h2':((parS (ZE w).1).2 != 0)=true:=by rw[bne,h2];rfl
   simp only[h2',Ua,Da,Aa];exact .inl ⟨_,h2',rfl,rfl, .inr ⟨Ob.1 h1,rfl⟩⟩
  |true=>
   have h2':((parS (ZE w).1).2 != 0)=false:=by rw[bne,h2];rfl
   have hz:=zGo hw;obtain⟨y,hy,g1,_,g3⟩:=zA3 (v:=(parS (ZE w).1).1) (q:=⟨64,0⟩) true (c:=0) (by omega) ⟨64,by omega,rfl⟩ rfl (by omega);have g3:y.2.constructs=(cntC (parS (ZE w).1).1:Int):=by rw[g3,Da,Xc]
   simp only[h2',Eb,Ca,hy,Aa,show((0:Int) != 0)=false from rfl];refine .inr ⟨Ob.1 h1,Ob.1 h2,y.1,by omega,rfl,?_⟩;cases hl:(y.1.length:Int) != 1 with
   |true=>exact .inl rfl
   |false=>
    simp only[Ca];cases hc:y.2.constructs != 1 with
    |true=>exact .inl rfl
    |false=> have hl:=bne_eq_false_iff_eq.1 hl;have hc:=bne_eq_false_iff_eq.1 hc;obtain⟨r,hr⟩:=List.length_eq_one_iff.1 (show y.1.length=1 by omega);refine .inr ⟨r,hr,by omega,?_⟩;rw[hr];exact congrArg (fun q=>some (q,(0:Int))) (Jk r)
theorem VU{w:Str}{V:List za}(hw:w.length<=610)(hp:qy (QS (Proofs.Cl.cleanS w)) ([],[])=some (V,[]))(hc:cntC V≠1): ∃e,qG w=some (noR,e)/\(e=12\/e=4):=by
 rcases oN hw with⟨e,h1,h2,_,h3⟩|⟨h1,h2,L,_,_,h3|⟨r,_,h4,_⟩⟩
 ·refine⟨e,h2, .inr ?_⟩;rcases h3 with h3|⟨h3,h4⟩
  ·unfold ZE at h3;rw[Ia (by omega)]at h3;split at h3
   ·exact h3.symm
   ·have h3:(0:Int)=e:=h3;rw[<-h3]at h1;cases h1
  ·rw[(tok0 h3).2.2,YU hp]at h4;split at h4
   ·exact h4.symm
   ·have h4:(0:Int)=e:=h4;rw[<-h4]at h1;cases h1
 ·exact⟨12,h3, .inl rfl⟩
 ·exfalso;rw[(tok0 h1).2.2,YU hp]at h2 h4;split at h2
  ·cases h2
  ·rename_i h5;rw[Ia h5]at h4;exact hc h4
def tkI(k:Int)(s:Str):zk:=⟨k,s,0,[],false⟩
theorem XT(c d:UInt8)(y:Str)(hc:letB c=true)(hd:letB d=false)(h2:(d==92)=false):Zg (c::d::y)=([c],d::y):=by
 rw[QN,Ka hc,QN,Ia (by rw[hd];decide)];have:escS (d::y)=false:=by show(d==92&&_)=false;rw[h2];rfl
 rw[Ia (by rw[this];decide)]
theorem zHU:QS [122,123,125]=[tkI 1 [122],tkI 23 [],tkI 24 []]:=by
 have e:QH [122,123,125]=(tkI 1 [122],[123,125]):=by rw[Co,show brS 122 [123,125]=7 from rfl,Vy];unfold Jg;rw[XT 122 123 [125] rfl rfl rfl];rfl
 rw[Sm (mi rfl),e,TB (k:=23) (by decide) (by decide) rfl (by decide),TB (k:=24) (by decide) (by decide) rfl (by decide),Uo (mi rfl)];rfl
theorem zHT(c:Str):QS (64::121::59::c)=tkI 3 [121]::tkI 17 []::QS c:=by
 have e:QH (64::121::59::c)=(tkI 3 [121],59::c):=by rw[Co,show brS 64 (121::59::c)=6 from rfl,xD,XT 121 59 c rfl rfl rfl];rfl
 rw[Sm (mi rfl),e,TB (k:=17) (by decide) (by decide) rfl (by decide)];rfl
theorem mW{w:Str}(hw:w.length<=600)(h:Closed w):(∃e,qG (w++[122,123,125])=some (noR,e)/\(e=12\/e=4))/\(∃e,qG ([64,121,59]++w)=some (noR,e)/\(e=12\/e=4)):=by
 obtain⟨_,h1,hp,⟨t,b,hv,hb⟩,l0,R0,hr,hR⟩:=h;have h1:=h1;generalize (parS (ZE w).1).1=V at hp hv;have hlast:lastB V:= .inr ⟨t,b,hv,hb⟩;have hpos:1<=cntC V:=fG ⟨b,by rw[hv];simp,by unfold Wl;rw[hb];rfl⟩;have hend:endC (Proofs.Cl.cleanS w):=by obtain⟨q,e⟩:=hR▸(Uh R0).trans (Jo hr);exact⟨q,e.symm⟩
 refine⟨VU (V:=V++[⟨tkI 1 [122],[]⟩,⟨tkI 23 [],[]⟩]) (by rw[La];show _+3<=_;omega) ?_ ?_,VU (V:=[⟨tkI 3 [121],[]⟩,⟨tkI 17 [],[]⟩]++V) (by rw[La];show 3+_<=_;omega) ?_ ?_⟩
 ·rw[AO _ (vV hend),show Proofs.Cl.cleanS [122,123,125]=[122,123,125]from rfl,zHS _ hr hR,zHU,XO hp];rfl
 ·rw[zB8 _ hlast];have:1<=cntC [⟨tkI 1 [122],[]⟩,⟨tkI 23 [],[]⟩]:=fG ⟨⟨tkI 1 [122],[]⟩,by simp,rfl⟩;omega
 ·rw[AO _ (fun p e=>by have:=congrArg List.getLast? e;simp at this),show Proofs.Cl.cleanS [64,121,59]=[64,121,59]from rfl];show qy (QS (64::121::59::Proofs.Cl.cleanS w)) ([],[])=_;rw[zHT,show tkI 3 [121]::tkI 17 []::QS (Proofs.Cl.cleanS w)=[tkI 3 [121],tkI 17 []]++QS (Proofs.Cl.cleanS w)from rfl,XO (v:=[⟨tkI 3 [121],[]⟩,⟨tkI 17 [],[]⟩]) rfl,hp];rfl
 ·rw[Db,cntC,Ia (by decide)];show 1+cntC V≠1;omega
theorem RY(x:Str):DD x=some true:=by
 unfold DD;by_cases hl:(x.length:Int)>600
 ·rw[Ha hl,Da,Aw];rfl
 rw[Ta hl,Ca];have hw:x.length<=600:=by omega
 have hnoR:ZV (noR,noR)=some true:=sM (by rw[show zA (zG noR)=5+0+0+zA (zu ⟨0,[],0,⟨[],[],false⟩,[]⟩)+0+0 from zR _,zNoC];decide);rcases oN (w:=x) (by omega)with⟨e,h1,h2,h3,_⟩|⟨_,_,L,hz,h3,h2|⟨r,hL,_,h2⟩⟩
 ·simp only[h2,h3,h1,ze,Aa,Da,Be,Zl,Aw]
 ·simp only[h2,h3,ze,Aa,show((0:Int) != 0)=false from rfl,Ca,show((12:Int) != 0)=true from rfl,Da,show((12:Int)==12)=true from rfl,Zl,Aw];rw[show(⟨noR.kind,noR.selectors,noR.decls,⟨noR.cond.kind,noR.cond.name,noR.cond.num,noR.cond.decl,noR.cond.list⟩,noR.names,noR.rules⟩:z8)=noR from rfl,show(⟨0,[],[],⟨0,[],0,⟨[],[],false⟩,[]⟩,[],[]⟩:z8)=noR from rfl,hnoR];rfl
 ·subst hL;have hr:ZV (r,r)=some true:=sM (by rw[ZK,Gh]at hz;exact hz);have e0:geti [r] 0=some r:=rfl;simp only[h2,h3,ze,Aa,show((0:Int) != 0)=false from rfl,Ca,show((([r]:List z8).length:Int) != 1)=false from rfl,Ua,Zl,e0,Jk,hr,Eb];obtain⟨z,hzv,hcl⟩:=nW (w:=x) (by omega);rw[hzv,Aa];cases hb:z.2 with
  |false=>simp only[Ua,Da,Aw,Aa]
  |true=>
   obtain⟨⟨e1,g1,g2⟩,⟨e2,g3,g4⟩⟩:=mW hw (hcl hb);have c1:Sj x.length ([122,123,125]:Str).length=true:=Sw.2 (by simp only[Ea,Xa];omega);have c2:Sj ([64,121,59]:Str).length x.length=true:=Sw.2 (by simp only[Ea,Xa];omega);simp only[Eb,Ca,c1,c2,ZF,g1,g3,Aa];have k: ∀e:Int,e=12\/e=4->(bif e==12 then true else e==4)=true:=fun e h=>by rcases h with rfl|rfl<;>rfl
   rw[show(bif bif e1==12 then true else e1==4 then bif e2==12 then true else e2==4 else false)=true by rw[k _ g2,k _ g4];rfl];simp only[Zl,Aw,Aa,Da]
end Go.Lv.VT
