/- Parsing of tokens: what the machine of nest.Parse computes is what the reference's recursion computes. -/
import Derived.Test.YtcdeccnjlkkejaaGreatDoorNa
import Derived.Test.YtcdeccnjlkkejaaGreatDoorTy
import Derived.Test.YtcdeccnjlkkejaaGreatDoorNb
import Derived.KernelRfl
import Derived.Test.YtcdeccnjlkkejaaGreatDoorNd
set_option linter.unusedSimpArgs false
set_option linter.unusedVariables false
namespace Go.Lv.VT
set_option maxRecDepth 100000
def Tg:Nat->List zb->Int->Nat->Option (List zg×List zb)
 |0,_,_,_=>none
 |_+1,[],_,_=>some ([],[])
 |n+1,t::r,c,left=>
  if c≠0/\t.kind=c then some ([],r)
  else if zo t.kind=0 then(Tg n r c left).map fun v=>(⟨t,[]⟩::v.1,v.2)
  else match left with
   |0=>none
   |m+1=>(Tg n r (zo t.kind) m).bind fun w=>(Tg n w.2 c (m+1)).map fun v=>(⟨t,w.1⟩::v.1,v.2)
theorem Kz(n:Nat)(t:zb)(r:List zb)(c:Int)(left:Nat):Tg (n+1) (t::r) c left=if c≠0/\t.kind=c then some ([],r)
  else if zo t.kind=0 then(Tg n r c left).map fun v=>(⟨t,[]⟩::v.1,v.2)
  else match left with
   |0=>none
   |m+1=>(Tg n r (zo t.kind) m).bind fun w=>(Tg n w.2 c (m+1)).map fun v=>(⟨t,w.1⟩::v.1,v.2):=rfl
theorem Az: ∀(n:Nat) (l:List zb) (c:Int) (left:Nat) (v:List zg×List zb),Tg n l c left=some v->v.2.length<=l.length/\(l≠[]->v.2.length<l.length)
 |0,_,_,_,_,h=>by cases h
 |n+1,[],c,left,v,h=>by
  rw[Tg]at h;cases h;exact⟨Va _,fun h=>absurd rfl h⟩
 |n+1,t::r,c,left,v,h=>by
  rw[Kz]at h;have i:v.2.length<=r.length:=by
   split at h
   ·cases h;exact Va _
   split at h
   ·cases hv:Tg n r c left with
    |none=>rw[hv]at h;cases h
    |some w=>rw[hv]at h;cases h;exact(Az n r c left w hv).1
   ·cases left with
    |zero=>cases h
    |f m=>
     simp only at h;cases d:Tg n r (zo t.kind) m with
     |none=>rw[d]at h;cases h
     |some w=>
      rw[d,Aa]at h;cases hv:Tg n w.2 c (m+1)with
      |none=>rw[hv]at h;cases h
      |some j=> rw[hv]at h;cases h;have h1:=(Az n r _ m w d).1;have h2:=(Az n w.2 c _ j hv).1;exact Sb h2 h1
  exact⟨by rw[Ea];omega,fun _=>by rw[Ea];omega⟩
def Bn(l:List zb)(s:PSt):Option (List zg):=(Z6 l s).map fun s=>shutAll s.1 s.2
theorem kS(t:zb)(l:List zb)(s:PSt):Bn (t::l) s=(qp s t).bind (Bn l):=by unfold Bn;rw[Z6];cases qp s t<;>rfl
theorem nC: ∀(n:Nat) (l:List zb) (cur:List zg) (o:zb) (out:List zg) (st:List (zb×List zg)) (left:Nat),l.length<n->zo o.kind≠0->left+(st.length+1)=16->
  Bn l (cur,(o,out)::st)=(Tg n l (zo o.kind) left).bind fun v=>Bn v.2 (out++[⟨o,cur++v.1⟩],st)
 |0,_,_,_,_,_,_,h,_,_=>by omega
 |n+1,[],cur,o,out,st,left,_,_,_=>by rw[Tg,Aa];simp only[Bn,Z6,Kb,shutAll,Ab]
 |n+1,t::r,cur,o,out,st,left,hn,ho,hl=>by
  rw[Ea]at hn;rw[Kz,kS];unfold qp;simp only[Dn];by_cases h1:t.kind=zo o.kind
  ·rw[La (by rw[h1,yf]),La ⟨ho,h1⟩,Aa,Aa];simp only[kL,Ab]
  ·rw[Ha (by rw[Ib];exact h1),Ha (show¬(zo o.kind≠0/\t.kind=zo o.kind)from fun h=>h1 h.2)];by_cases h2:zo t.kind=0
   ·rw[Ha (show¬zo t.kind≠0 from fun h=>h h2),La h2,Aa,nC n r _ o out st left (by omega) ho hl];cases Tg n r (zo o.kind) left with
    |none=>rfl
    |some v=>simp only[Aa,Kb,Na,Gd]
   ·rw[La h2,Ha h2];cases left with
    |zero=>rw[La (by rw[Ea];omega)];rfl
    |c m=>
     rw[Ha (by rw[Ea];omega),Aa];simp only;rw[nC n r [] t cur ((o,out)::st) m (by omega) h2 (by rw[Ea];omega)];cases f:Tg n r (zo t.kind) m with
     |none=>rfl
     |some w=>
      have d:=(Az n r _ m w f).1;simp only[Aa];rw[nC n w.2 _ o out st (m+1) (by omega) ho hl];cases Tg n w.2 (zo o.kind) (m+1)with
      |none=>rfl
      |some v=>simp only[Aa,Kb,Kc,Na,Gd]
theorem vI: ∀(n:Nat) (l:List zb) (cur:List zg),l.length<n->Bn l (cur,[])=(Tg n l 0 16).map fun v=>cur++v.1
 |0,_,_,h=>by omega
 |n+1,[],cur,_=>by rw[Tg];simp only[Bn,Z6,Kb,shutAll,Ab]
 |n+1,t::r,cur,hn=>by
  rw[Ea]at hn;rw[Kz,kS];unfold qp;simp only[Dn];rw[Ha (by decide),Ha (show¬((0:Int)≠0/\t.kind=0)from fun h=>h.1 rfl)];by_cases h2:zo t.kind=0
  ·rw[Ha (show¬zo t.kind≠0 from fun h=>h h2),La h2,Aa,vI n r _ (by omega)];cases Tg n r 0 16 with
   |none=>rfl
   |some v=>simp only[Kb,Na,Gd]
  ·rw[La h2,Ha h2,Ha (by decide),Aa];rw[nC n r [] t cur [] 15 (by omega) h2 rfl];cases d:Tg n r (zo t.kind) 15 with
   |none=>rfl
   |some w=>
    have c:=(Az n r _ 15 w d).1;simp only[Aa];rw[vI n w.2 _ (by omega)];cases Tg n w.2 0 16 with
    |none=>rfl
    |some v=>simp only[Kb,Kc,Na,Gd]
theorem SC: ∀(a b:List zg),tokL (a++b)=tokL a++tokL b
 |[],b=>by rw[tokL];rfl
 |v::a,b=>by rw[ja,tokL,tokL,SC a b,Na]
theorem eH(v:zg):tokL [v]=tokV v:=by rw[tokL,tokL,Ab]
def aj(s:PSt):Nat:=(tokL s.1).length+(s.2.map fun x=>1+(tokL x.2).length).sum
def YF(s:PSt):Prop:= ∀x∈s.2,zo x.1.kind≠0
theorem U7{s d:PSt}{t:zb}(h:qp s t=some d)(ho:YF s):YF d/\aj d=aj s+1:=by
 unfold qp at h;obtain⟨cur,st⟩:=s;split at h
 ·rename_i h1;cases st with
  |nil=>cases h1
  |cons x st=> obtain⟨o,out⟩:=x;cases h;have h2:zo o.kind≠0:=ho (o,out) (Jb ..);refine⟨fun x c=>ho x (Eb _ c),?_⟩;simp only[aj,kL,SC,eH,Ba,aa,Mg,Rp,Ea,Ha h2,Ba,Cb,Lc];omega
 split at h
 ·rename_i h1 h2;split at h
  ·cases h
  ·rename_i h3;cases h;refine⟨fun x c=> ?_,?_⟩
   ·rcases ma.1 c with rfl|c
    ·exact h2
    ·exact ho x c
   ·simp only[aj,aa,Mg,tokL,Lc];omega
 ·rename_i h1 h2;cases h;refine⟨ho,?_⟩;have h2:zo t.kind=0:=Li h2;simp only[aj,SC,eH,Ba,Rp,Ea,La h2,Lc];omega
theorem bP: ∀(l:List zb) {s c:PSt},Z6 l s=some c->YF s->YF c/\aj c=aj s+l.length
 |[],s,c,h,ho=>by cases h;exact⟨ho,rfl⟩
 |t::l,s,c,h,ho=>by
  rw[Z6]at h;cases d:qp s t with
  |none=>rw[d]at h;cases h
  |some f=> rw[d,Aa]at h;obtain⟨h1,h2⟩:=U7 d ho;obtain⟨h3,h4⟩:=bP l h h1;exact⟨h3,by rw[h4,h2,Ea];omega⟩
theorem CS: ∀(st:List (zb×List zg)) (cur:List zg),(∀x∈st,zo x.1.kind≠0)->(tokL (shutAll cur st)).length=aj (cur,st)+st.length
 |[],cur,_=>by simp[shutAll,aj]
 |(o,out)::st,cur,h=>by have h2:zo o.kind≠0:=h (o,out) (Jb ..);rw[shutAll,CS st _ (fun x c=>h x (Eb _ c))];simp only[aj,SC,eH,Ba,Rp,Ea,Ha h2,Ba,Cb,aa,Mg,Ea,Lc];omega
def DL(l:List zb)(c:Int)(left:Nat):Option (List zg×List zb):=Tg (l.length+1) l c left
def wtT:List zb->Nat
 |[]=>0
 |t::r=>1+t.text.length+t.unit.length+wtT r
theorem FD: ∀(n:Nat) (l:List zb) (c:Int) (left:Nat) (v:List zg×List zb),Tg n l c left=some v->szL v.1+wtT v.2<=wtT l
 |0,_,_,_,_,h=>by cases h
 |n+1,[],c,left,v,h=>by
  rw[Tg]at h;cases h;rw[szL];exact Va _
 |n+1,t::r,c,left,v,h=>by
  rw[Kz]at h;rw[wtT];split at h
  ·cases h;rw[szL];simp only;omega
  split at h
  ·cases hv:Tg n r c left with
   |none=>rw[hv]at h;cases h
   |some w=> rw[hv]at h;cases h;have:=FD n r c left w hv;simp only[szL,szV];omega
  ·cases left with
   |zero=>cases h
   |f m=>
    simp only at h;cases d:Tg n r (zo t.kind) m with
    |none=>rw[d]at h;cases h
    |some w=>
     rw[d,Aa]at h;cases hv:Tg n w.2 c (m+1)with
     |none=>rw[hv]at h;cases h
     |some i=> rw[hv]at h;cases h;have h1:=FD n w.2 c _ i hv;have h2:=FD n r _ m w d;simp only[szL,szV];omega
theorem wM(l:List zb):(Z6 l ([],[])).map (fun s=>shutAll s.1 s.2)=(DL l 0 16).map Prod.fst:=vI _ l [] (Dc _)
theorem zD4{l:List zb}{s:PSt}(h:Z6 l ([],[])=some s):szL (shutAll s.1 s.2)<=wtT l:=by
 have hp:=wM l;rw[h,Kb]at hp;cases hv:DL l 0 16 with
 |none=>rw[hv]at hp;cases hp
 |some v=> rw[hv,Kb]at hp;injection hp with hp;have:=FD _ _ _ _ v hv;rw[hp];omega
theorem zCH(l:List zb):szL (parS l).1<=wtT l:=by
 unfold parS;split
 ·rw[szL];exact Pb _
 ·split
  ·rw[szL];exact Pb _
  ·rename_i s c;split
   ·rw[szL];exact Pb _
   ·exact zD4 c
theorem rD: ∀(n:Nat) (l:List zb) (c:Int) (left:Nat) (v:List zg×List zb),Tg n l c left=some v->shL v.1 c=true/\ig v.1<=left/\(∀t∈v.2,t∈l)/\ ∀t∈tokL v.1,t∈l\/(t.text=[]/\t.unit=[])
 |0,_,_,_,_,h=>by cases h
 |n+1,[],c,left,v,h=>by
  rw[Tg]at h;cases h;exact⟨by rw[shL],by rw[ig];exact Pb _,fun t ht=>ht,fun t ht=>by rw[tokL]at ht;cases ht⟩
 |n+1,t::r,c,left,v,h=>by
  rw[Kz]at h;split at h
  ·cases h;exact⟨by rw[shL],by rw[ig];exact Pb _,fun t ht=>Eb _ ht,fun t ht=>by rw[tokL]at ht;cases ht⟩
  rename_i h1;have hc:(c != 0&&t.kind==c)=false:=by
   cases i:(c != 0&&t.kind==c)with
   |false=>rfl
   |true=>rw[Da,Cg,Ib]at i;exact absurd i h1
  split at h
  ·rename_i h2;cases hv:Tg n r c left with
   |none=>rw[hv]at h;cases h
   |some w=>
    rw[hv]at h;cases h;obtain⟨a1,a2,d,a4⟩:=rD n r c left w hv;refine⟨?_,?_,fun t ht=>Eb _ (d t ht),fun u hu=> ?_⟩
    ·rw[shL,shV,a1,hc,h2];rfl
    ·rw[ig,Uj,La h2];omega
    ·rw[tokL,tokV,La h2]at hu;rcases ma.1 hu with rfl|hu
     ·exact .inl (Jb ..)
     ·exact(a4 u hu).imp (Eb _) id
  ·rename_i h2;cases left with
   |zero=>cases h
   |j m=>
    simp only at h;cases f:Tg n r (zo t.kind) m with
    |none=>rw[f]at h;cases h
    |some w=>
     rw[f,Aa]at h;cases hv:Tg n w.2 c (m+1)with
     |none=>rw[hv]at h;cases h
     |some p=>
      rw[hv]at h;cases h;obtain⟨a1,a2,d,a4⟩:=rD n r _ m w f;obtain⟨b1,b2,y,b4⟩:=rD n w.2 c _ p hv;have z:(zo t.kind==0)=false:=Ga.2 h2;refine⟨?_,?_,fun u hu=>Eb _ (d u (y u hu)),fun u hu=> ?_⟩
      ·rw[shL,shV,a1,b1,hc,z,Nc,Ve];rfl
      ·rw[ig,Uj,Ha h2];omega
      ·rw[tokL,tokV,Ha h2,ja,Na]at hu;rcases ma.1 hu with rfl|hu
       ·exact .inl (Jb ..)
       ·rcases Bc.1 hu with hu|hu
        ·exact(a4 u hu).imp (Eb _) id
        ·rcases Bc.1 hu with hu|hu
         ·rw[Sa.1 hu];exact .inr ⟨rfl,rfl⟩
         ·exact(b4 u hu).imp (fun q=>Eb _ (d u q)) id
theorem uZ{l:List zb}(h:(parS l).2=0):errS (parS l).1=0/\ ∀t∈tokL (parS l).1,t∈l\/(t.text=[]/\t.unit=[]):=by
 unfold parS at h ⊢;split at h
 ·cases h
 rename_i h0;rw[Ha h0];split at h
 ·cases h
 rename_i s c;split at h
 ·cases h
 rename_i hk;rw[Ha hk];have hp:=wM l;rw[c,Kb]at hp;cases hv:DL l 0 16 with
 |none=>rw[hv]at hp;cases hp
 |some v=>
  rw[hv,Kb]at hp;injection hp with hp;obtain⟨a1,a2,i,a4⟩:=rD _ _ _ _ _ hv;obtain⟨b1,b2⟩:=bP l c (fun x f=>by cases f);have d:=CS s.2 s.1 b1;have b4:aj (s.1,s.2)=l.length:=by rw[show(s.1,s.2)=s from rfl,b2];simp[aj,tokL]
  rw[b4]at d;simp only[hp]at d ⊢;refine⟨?_,a4⟩;unfold errS;rw[Ha (by omega),Ha (by omega),La a1]
def topc:List (zb×List zg)->Int
 |[]=>0
 |(o,_)::_=>zo o.kind
theorem zAd{st:List (zb×List zg)}{t:zb}(ho: ∀x∈st,zo x.1.kind≠0)(h:(topc st != 0&&t.kind==topc st)=false): ¬Dn st t=true:=by
 cases st with
 |nil=>exact Bool.false_ne_true
 |cons x st=> obtain⟨o,out⟩:=x;have h0:(zo o.kind != 0)=true:=Cg.2 (ho (o,out) (Jb ..));show¬(t.kind==zo o.kind)=true;have h':(zo o.kind != 0&&t.kind==zo o.kind)=false:=h;rw[h0,Vb]at h';rw[h'];exact Bool.false_ne_true
mutual
/-- The tokens of values of their shape are read as these values. -/
theorem zEA: ∀(v:zg) (cur:List zg) (st:List (zb×List zg)) (rest:List zb),(∀x∈st,zo x.1.kind≠0)->shV v (topc st)=true->Uj v+st.length<=16->Z6 (tokV v++rest) (cur,st)=Z6 rest (cur++[v],st)
 |⟨t,l⟩,cur,st,rest,ho,c,d=>by
  rw[shV,xe,Ke,Ke]at c;obtain⟨⟨h1,h2⟩,h3⟩:=c;have hn:=zAd ho h2;rw[tokV];rw[Uj]at d;by_cases h0:zo t.kind=0
  ·have hl:l=[]:=by rw[h0,show((0:Int)==0)=true from rfl,Vb,Rf]at h1;exact Ye.1 (by omega)
   subst hl;rw[La h0,Gd,Z6];unfold qp;rw[Ha hn,Ha (fun h=>h h0),Aa]
  ·rw[Ha h0]at d ⊢;have j:(zo t.kind != 0)=true:=Cg.2 h0;rw[j,Vb,Bool.not_eq_false']at h3;have f: ∀x∈(t,cur)::st,zo x.1.kind≠0:=fun x i=>by
    rcases ma.1 i with rfl|i
    ·exact h0
    ·exact ho x i
   rw[ja,Na,Z6];unfold qp;rw[Ha hn,La h0,Ha (show¬st.length=16 by omega),Aa,xL l [] ((t,cur)::st) _ f h3 (by rw[Ea];omega),Kc,Gd,Z6];unfold qp;rw[La (show Dn ((t,cur)::st) ⟨zo t.kind,[],0,[],false⟩=true from yf _),Aa];rfl
theorem xL: ∀(v:List zg) (cur:List zg) (st:List (zb×List zg)) (rest:List zb),(∀x∈st,zo x.1.kind≠0)->shL v (topc st)=true->ig v+st.length<=16->Z6 (tokL v++rest) (cur,st)=Z6 rest (cur++v,st)
 |[],cur,st,rest,_,_,_=>by rw[tokL,Kc,Ab]
 |v::r,cur,st,rest,ho,c,d=>by rw[shL,Da]at c;rw[ig]at d;rw[tokL,Na,zEA v cur st _ ho c.1 (by omega),xL r _ st _ ho c.2 (by omega),Na];rfl
end
theorem iX{v:List zg}(h:errS v=0):ig v<=16/\(tokL v).length<=1500/\shL v 0=true:=by
 unfold errS at h;split at h
 ·cases h
 split at h
 ·cases h
 split at h
 ·exact⟨by omega,by omega,by assumption⟩
 ·cases h
theorem vZ{v:List zg}(h:errS v=0):parS (tokL v)=(v,0):=by obtain⟨h1,h2,h3⟩:=iX h;have hb:=xL v [] [] [] (fun x c=>by cases c) h3 (by simpa using h1);rw[Ab,Kc,Z6]at hb;unfold parS;rw[Ha (by omega),hb];simp only[Lc,jd];rw[Ha (by omega),shutAll]
def lA:List zb:=[⟨2,[97],0,[],false⟩,⟨1,[98],0,[],false⟩,⟨19,[],0,[],false⟩,⟨1,[99],0,[],false⟩,⟨22,[],0,[],false⟩,⟨1,[100],0,[],false⟩]
def vA:List zg:=[⟨⟨2,[97],0,[],false⟩,[⟨⟨1,[98],0,[],false⟩,[]⟩,⟨⟨19,[],0,[],false⟩,[⟨⟨1,[99],0,[],false⟩,[]⟩,⟨⟨22,[],0,[],false⟩,[]⟩,⟨⟨1,[100],0,[],false⟩,[]⟩]⟩]⟩]
theorem mM{v:List zg}(hv:szL v<=big)(h:errS v=0)(c:gluS (tokL v)=0)(ht:di (tokL v) 1000):Bo v=some (if 4000<(wrS (tokL v)).length then([],28)else(wrS (tokL v),0)):=by unfold Bo;simp only[ze,mR hv,h,Aa];rw[show((0:Int) != 0)=false from rfl,Ia,jY hv,Aa,zAY c ht,Aa]
theorem Ur:Q3 ()=some true:=by
 have h1:Ki [97,40,98,91,99,41,100]=(lA,0):=by kernel_rfl
 have h2:parS lA=(vA,0):=by kernel_rfl
 have d:szL vA<=big:=by decide+c
 have h3:Bo vA=some ([97,40,98,91,99,41,100,93,41],0):=by rw[mM d (by decide+c) (by decide+c) (by unfold di;decide+c),show wrS (tokL vA)=[97,40,98,91,99,41,100,93,41] by decide+c];rfl
 have h4:eu vA=some (2,0):=by rw[D6 d];kernel_rfl
 unfold Q3 ME parseF;simp only[ze,BJ,h1,h2,h3,h4,Aa];rfl
theorem uF: ∀{l:List zb} {n:Nat},di l n->wtT l<=(n+1)*l.length
 |[],n,_=>by rw[wtT];exact Pb _
 |t::r,n,h=>by have h1:=h t (Jb ..);have h2:=uF (l:=r) (fun u hu=>h u (Eb _ hu));rw[wtT,Ea,Nat.mul_add];omega
theorem zpU(s:Str):DF s=some true:=by
 have V:big=4194304:=rfl;unfold DF;by_cases c:500<s.length
 ·rw[Ja (by omega),Ka];simp only[ze,Ur,Aa]
 ·rw[Db (by omega),Ia];simp only[ze,BJ,Aa,parseF];have hcl:=SQ s;have m:=rW (Proofs.Cl.cleanS s);have A:=jN (Proofs.Cl.cleanS s);have p:Ki s=if 1500<(qj (Proofs.Cl.cleanS s)).length then([],4)else(qj (Proofs.Cl.cleanS s),0):=by unfold Ki;rw[Ha (by omega)]
  have r:di (Ki s).1 6000/\(Ki s).1.length<=1500:=by
   rw[p];split
   ·exact⟨fun t ht=>(by cases ht),Pb _⟩
   ·exact⟨fun t ht=>(by have:=m t ht;omega),Nat.le_of_not_lt (by assumption)⟩
  clear p m A hcl;obtain⟨l,hl⟩: ∃l,(Ki s).1=l:=⟨_,rfl⟩;obtain⟨e,Y⟩: ∃e,(Ki s).2=e:=⟨_,rfl⟩;rw[hl]at r;simp only[hl,Y];obtain⟨u,f⟩:=r;have B:=zCH l;have Z:wtT l<=6001*1500:=Sb (uF u) (Nh _ f);obtain⟨g,J,L⟩:=bY (x:=l) (fun t ht=>by have:=u t ht;omega) (by omega);cases y:(bif e != 0 then true else(parS l).2 != 0)with
  |true=> simp only[Nc,ZA,Aa,Ka,Ur]
  |false=>
   have O:(parS l).2=0:=by
    cases h:e != 0 with
    |true=>rw[h]at y;cases y
    |false=>rw[h,Ia]at y;exact Li fun q=>by rw[Cg.2 q]at y;cases y
   simp only[Ec,Zp,J,Aa,Ia];cases g with
   |true=>simp only[Nc,ZA,Aa,Ka,Ur]
   |false=>
    obtain⟨h1,_⟩:=L rfl;obtain⟨hv,hm⟩:=uZ O;obtain⟨v,z⟩: ∃v,(parS l).1=v:=⟨_,rfl⟩;rw[z]at hv hm B;have i:szL v<=big:=by have h3:wtT l<=1001*1500:=Sb (uF h1) (Nh _ f);omega
    have j:di (tokL v) 1000:=fun t ht=>by
     rcases hm t ht with q|⟨q1,q2⟩
     ·exact h1 t q
     ·rw[q1,q2];exact Pb _
    simp only[z,Ec,Zp,J7 i,Aa,zm7 (zC4 j (show 1000<=big by omega)),Ia];by_cases d:gluS (tokL v)=0
    ·have U:=mM i hv d j;rw[d,show((0:Int) != 0)=false from rfl,Ia,U,Aa];by_cases c:4000<(wrS (tokL v)).length
     ·rw[La c];simp only[show((28:Int) != 0)=true from rfl,show((28:Int)==28)=true from rfl,Ka,Zp,Ur,Aa]
     ·rw[Ha c];simp only[show((0:Int) != 0)=false from rfl,Ia,S9 d j (by omega),Aa,vZ hv,show((0:Int)==0)=true from rfl,Ka,Zp,zAs i,Ur]
    ·have:(gluS (tokL v) != 0)=true:=by rw[Cg];exact d
     rw[W,Ka];simp only[Ur,Aa]
end Go.Lv.VT
