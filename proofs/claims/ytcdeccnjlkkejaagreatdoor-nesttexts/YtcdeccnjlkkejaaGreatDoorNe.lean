/- Parsing of tokens: what the machine of nest.Parse computes is what the reference's recursion computes. -/
import Derived.Test.YtcdeccnjlkkejaaGreatDoorNa
import Derived.Test.YtcdeccnjlkkejaaGreatDoorTy
import Derived.Test.YtcdeccnjlkkejaaGreatDoorNb
import Derived.KernelRfl
import Derived.Test.YtcdeccnjlkkejaaGreatDoorNd
set_option linter.unusedSimpArgs false
set_option linter.unusedVariables false
namespace Go.Lv.VT
set_option maxRecDepth 100000
def Pg:Nat->List zb->Int->Nat->Option (List zg×List zb)
 |0,_,_,_=>none
 |_+1,[],_,_=>some ([],[])
 |n+1,t::r,c,left=>
  if c≠0/\t.kind=c then some ([],r)
  else if zo t.kind=0 then(Pg n r c left).map fun v=>(⟨t,[]⟩::v.1,v.2)
  else match left with
   |0=>none
   |m+1=>(Pg n r (zo t.kind) m).bind fun w=>(Pg n w.2 c (m+1)).map fun v=>(⟨t,w.1⟩::v.1,v.2)
theorem Gz(n:Nat)(t:zb)(r:List zb)(c:Int)(left:Nat):Pg (n+1) (t::r) c left=if c≠0/\t.kind=c then some ([],r)
  else if zo t.kind=0 then(Pg n r c left).map fun v=>(⟨t,[]⟩::v.1,v.2)
  else match left with
   |0=>none
   |m+1=>(Pg n r (zo t.kind) m).bind fun w=>(Pg n w.2 c (m+1)).map fun v=>(⟨t,w.1⟩::v.1,v.2):=rfl
theorem ry: ∀(n:Nat) (l:List zb) (c:Int) (left:Nat) (v:List zg×List zb),Pg n l c left=some v->v.2.length<=l.length/\(l≠[]->v.2.length<l.length)
 |0,_,_,_,_,h=>by cases h
 |n+1,[],c,left,v,h=>by
  rw[Pg]at h;cases h;exact⟨Va _,fun h=>absurd rfl h⟩
 |n+1,t::r,c,left,v,h=>by
  rw[Gz]at h;have key:v.2.length<=r.length:=by
   split at h
   ·cases h;exact Va _
   split at h
   ·cases hv:Pg n r c left with
    |none=>rw[hv]at h;cases h
    |some w=>rw[hv]at h;cases h;exact(ry n r c left w hv).1
   ·cases left with
    |zero=>cases h
    |succ m=>
     simp only at h;cases hw:Pg n r (zo t.kind) m with
     |none=>rw[hw]at h;cases h
     |some w=>
      rw[hw,Aa]at h;cases hv:Pg n w.2 c (m+1)with
      |none=>rw[hv]at h;cases h
      |some v'=> rw[hv]at h;cases h;have h1:=(ry n r _ m w hw).1;have h2:=(ry n w.2 c _ v' hv).1;exact Pb h2 h1
  exact⟨by rw[Ia];omega,fun _=>by rw[Ia];omega⟩
def wm(l:List zb)(s:PSt):Option (List zg):=(Z5 l s).map fun s=>shutAll s.1 s.2
theorem aS(t:zb)(l:List zb)(s:PSt):wm (t::l) s=(qo s t).bind (wm l):=by unfold wm;rw[Z5];cases qo s t<;>rfl
theorem jC: ∀(n:Nat) (l:List zb) (cur:List zg) (o:zb) (out:List zg) (st:List (zb×List zg)) (left:Nat),l.length<n->zo o.kind≠0->left+(st.length+1)=16->
  wm l (cur,(o,out)::st)=(Pg n l (zo o.kind) left).bind fun v=>wm v.2 (out++[⟨o,cur++v.1⟩],st)
 |0,_,_,_,_,_,_,h,_,_=>by omega
 |n+1,[],cur,o,out,st,left,_,_,_=>by rw[Pg,Aa];simp only[wm,Z5,Jb,shutAll,Ab]
 |n+1,t::r,cur,o,out,st,left,hn,ho,hl=>by
  rw[Ia]at hn;rw[Gz,aS];unfold qo;simp only[xm];by_cases h1:t.kind=zo o.kind
  ·rw[Ka (by rw[h1,mf]),Ka ⟨ho,h1⟩,Aa,Aa];simp only[dL,Ab]
  ·rw[Ga (by rw[Lb];exact h1),Ga (show¬(zo o.kind≠0/\t.kind=zo o.kind)from fun h=>h1 h.2)];by_cases h2:zo t.kind=0
   ·rw[Ga (show¬zo t.kind≠0 from fun h=>h h2),Ka h2,Aa,jC n r _ o out st left (by omega) ho hl];cases Pg n r (zo o.kind) left with
    |none=>rfl
    |some v=>simp only[Aa,Jb,Ra,Ed]
   ·rw[Ka h2,Ga h2];cases left with
    |zero=>rw[Ka (by rw[Ia];omega)];rfl
    |succ m=>
     rw[Ga (by rw[Ia];omega),Aa];simp only;rw[jC n r [] t cur ((o,out)::st) m (by omega) h2 (by rw[Ia];omega)];cases hw:Pg n r (zo t.kind) m with
     |none=>rfl
     |some w=>
      have hlen:=(ry n r _ m w hw).1;simp only[Aa];rw[jC n w.2 _ o out st (m+1) (by omega) ho hl];cases Pg n w.2 (zo o.kind) (m+1)with
      |none=>rfl
      |some v=>simp only[Aa,Jb,Ic,Ra,Ed]
theorem oI: ∀(n:Nat) (l:List zb) (cur:List zg),l.length<n->wm l (cur,[])=(Pg n l 0 16).map fun v=>cur++v.1
 |0,_,_,h=>by omega
 |n+1,[],cur,_=>by rw[Pg];simp only[wm,Z5,Jb,shutAll,Ab]
 |n+1,t::r,cur,hn=>by
  rw[Ia]at hn;rw[Gz,aS];unfold qo;simp only[xm];rw[Ga (by decide),Ga (show¬((0:Int)≠0/\t.kind=0)from fun h=>h.1 rfl)];by_cases h2:zo t.kind=0
  ·rw[Ga (show¬zo t.kind≠0 from fun h=>h h2),Ka h2,Aa,oI n r _ (by omega)];cases Pg n r 0 16 with
   |none=>rfl
   |some v=>simp only[Jb,Ra,Ed]
  ·rw[Ka h2,Ga h2,Ga (by decide),Aa];rw[jC n r [] t cur [] 15 (by omega) h2 rfl];cases hw:Pg n r (zo t.kind) 15 with
   |none=>rfl
   |some w=>
    have hlen:=(ry n r _ 15 w hw).1;simp only[Aa];rw[oI n w.2 _ (by omega)];cases Pg n w.2 0 16 with
    |none=>rfl
    |some v=>simp only[Jb,Ic,Ra,Ed]
theorem MC: ∀(a b:List zg),tokL (a++b)=tokL a++tokL b
 |[],b=>by rw[tokL];rfl
 |v::a,b=>by rw[ma,tokL,tokL,MC a b,Ra]
theorem aH(v:zg):tokL [v]=tokV v:=by rw[tokL,tokL,Ab]
def Wj(s:PSt):Nat:=(tokL s.1).length+(s.2.map fun x=>1+(tokL x.2).length).sum
def VF(s:PSt):Prop:= ∀x∈s.2,zo x.1.kind≠0
theorem O7{s s':PSt}{t:zb}(h:qo s t=some s')(ho:VF s):VF s'/\Wj s'=Wj s+1:=by
 unfold qo at h;obtain⟨cur,st⟩:=s;split at h
 ·rename_i h1;cases st with
  |nil=>cases h1
  |cons x st=> obtain⟨o,out⟩:=x;cases h;have h2:zo o.kind≠0:=ho (o,out) (Fb ..);refine⟨fun x hx=>ho x (Cb _ hx),?_⟩;simp only[Wj,dL,MC,aH,Ba,aa,Jg,Lp,Ia,Ga h2,Ba,Eb,Lc];omega
 split at h
 ·rename_i h1 h2;split at h
  ·cases h
  ·rename_i h3;cases h;refine⟨fun x hx=> ?_,?_⟩
   ·rcases ja.1 hx with rfl|hx
    ·exact h2
    ·exact ho x hx
   ·simp only[Wj,aa,Jg,tokL,Lc];omega
 ·rename_i h1 h2;cases h;refine⟨ho,?_⟩;have h2:zo t.kind=0:=Gi h2;simp only[Wj,MC,aH,Ba,Lp,Ia,Ka h2,Lc];omega
theorem XP: ∀(l:List zb) {s s':PSt},Z5 l s=some s'->VF s->VF s'/\Wj s'=Wj s+l.length
 |[],s,s',h,ho=>by cases h;exact⟨ho,rfl⟩
 |t::l,s,s',h,ho=>by
  rw[Z5]at h;cases hs:qo s t with
  |none=>rw[hs]at h;cases h
  |some s1=> rw[hs,Aa]at h;obtain⟨h1,h2⟩:=O7 hs ho;obtain⟨h3,h4⟩:=XP l h h1;exact⟨h3,by rw[h4,h2,Ia];omega⟩
theorem xR: ∀(st:List (zb×List zg)) (cur:List zg),(∀x∈st,zo x.1.kind≠0)->(tokL (shutAll cur st)).length=Wj (cur,st)+st.length
 |[],cur,_=>by simp[shutAll,Wj]
 |(o,out)::st,cur,h=>by have h2:zo o.kind≠0:=h (o,out) (Fb ..);rw[shutAll,xR st _ (fun x hx=>h x (Cb _ hx))];simp only[Wj,MC,aH,Ba,Lp,Ia,Ga h2,Ba,Eb,aa,Jg,Ia,Lc];omega
def AL(l:List zb)(c:Int)(left:Nat):Option (List zg×List zb):=Pg (l.length+1) l c left
def wtT:List zb->Nat
 |[]=>0
 |t::r=>1+t.text.length+t.unit.length+wtT r
theorem BD: ∀(n:Nat) (l:List zb) (c:Int) (left:Nat) (v:List zg×List zb),Pg n l c left=some v->szL v.1+wtT v.2<=wtT l
 |0,_,_,_,_,h=>by cases h
 |n+1,[],c,left,v,h=>by
  rw[Pg]at h;cases h;rw[szL];exact Va _
 |n+1,t::r,c,left,v,h=>by
  rw[Gz]at h;rw[wtT];split at h
  ·cases h;rw[szL];simp only;omega
  split at h
  ·cases hv:Pg n r c left with
   |none=>rw[hv]at h;cases h
   |some w=> rw[hv]at h;cases h;have:=BD n r c left w hv;simp only[szL,szV];omega
  ·cases left with
   |zero=>cases h
   |succ m=>
    simp only at h;cases hw:Pg n r (zo t.kind) m with
    |none=>rw[hw]at h;cases h
    |some w=>
     rw[hw,Aa]at h;cases hv:Pg n w.2 c (m+1)with
     |none=>rw[hv]at h;cases h
     |some v'=> rw[hv]at h;cases h;have h1:=BD n w.2 c _ v' hv;have h2:=BD n r _ m w hw;simp only[szL,szV];omega
theorem sM(l:List zb):(Z5 l ([],[])).map (fun s=>shutAll s.1 s.2)=(AL l 0 16).map Prod.fst:=oI _ l [] (Cc _)
theorem zD4{l:List zb}{s:PSt}(h:Z5 l ([],[])=some s):szL (shutAll s.1 s.2)<=wtT l:=by
 have hp:=sM l;rw[h,Jb]at hp;cases hv:AL l 0 16 with
 |none=>rw[hv]at hp;cases hp
 |some v=> rw[hv,Jb]at hp;injection hp with hp;have:=BD _ _ _ _ v hv;rw[hp];omega
theorem zCH(l:List zb):szL (parS l).1<=wtT l:=by
 unfold parS;split
 ·rw[szL];exact Ac _
 ·split
  ·rw[szL];exact Ac _
  ·rename_i s hs;split
   ·rw[szL];exact Ac _
   ·exact zD4 hs
theorem mD: ∀(n:Nat) (l:List zb) (c:Int) (left:Nat) (v:List zg×List zb),Pg n l c left=some v->shL v.1 c=true/\Yg v.1<=left/\(∀t∈v.2,t∈l)/\ ∀t∈tokL v.1,t∈l\/(t.text=[]/\t.unit=[])
 |0,_,_,_,_,h=>by cases h
 |n+1,[],c,left,v,h=>by
  rw[Pg]at h;cases h;exact⟨by rw[shL],by rw[Yg];exact Ac _,fun t ht=>ht,fun t ht=>by rw[tokL]at ht;cases ht⟩
 |n+1,t::r,c,left,v,h=>by
  rw[Gz]at h;split at h
  ·cases h;exact⟨by rw[shL],by rw[Yg];exact Ac _,fun t ht=>Cb _ ht,fun t ht=>by rw[tokL]at ht;cases ht⟩
  rename_i h1;have hc:(c != 0&&t.kind==c)=false:=by
   cases hh:(c != 0&&t.kind==c)with
   |false=>rfl
   |true=>rw[Da,Bg,Lb]at hh;exact absurd hh h1
  split at h
  ·rename_i h2;cases hv:Pg n r c left with
   |none=>rw[hv]at h;cases h
   |some w=>
    rw[hv]at h;cases h;obtain⟨a1,a2,a3,a4⟩:=mD n r c left w hv;refine⟨?_,?_,fun t ht=>Cb _ (a3 t ht),fun u hu=> ?_⟩
    ·rw[shL,shV,a1,hc,h2];rfl
    ·rw[Yg,Rj,Ka h2];omega
    ·rw[tokL,tokV,Ka h2]at hu;rcases ja.1 hu with rfl|hu
     ·exact .inl (Fb ..)
     ·exact(a4 u hu).imp (Cb _) id
  ·rename_i h2;cases left with
   |zero=>cases h
   |succ m=>
    simp only at h;cases hw:Pg n r (zo t.kind) m with
    |none=>rw[hw]at h;cases h
    |some w=>
     rw[hw,Aa]at h;cases hv:Pg n w.2 c (m+1)with
     |none=>rw[hv]at h;cases h
     |some v'=>
      rw[hv]at h;cases h;obtain⟨a1,a2,a3,a4⟩:=mD n r _ m w hw;obtain⟨b1,b2,b3,b4⟩:=mD n w.2 c _ v' hv;have hz:(zo t.kind==0)=false:=Fa.2 h2;refine⟨?_,?_,fun u hu=>Cb _ (a3 u (b3 u hu)),fun u hu=> ?_⟩
      ·rw[shL,shV,a1,b1,hc,hz,Oc,xe];rfl
      ·rw[Yg,Rj,Ga h2];omega
      ·rw[tokL,tokV,Ga h2,ma,Ra]at hu;rcases ja.1 hu with rfl|hu
       ·exact .inl (Fb ..)
       ·rcases ib.1 hu with hu|hu
        ·exact(a4 u hu).imp (Cb _) id
        ·rcases ib.1 hu with hu|hu
         ·rw[Sa.1 hu];exact .inr ⟨rfl,rfl⟩
         ·exact(b4 u hu).imp (fun q=>Cb _ (a3 u q)) id
theorem rZ{l:List zb}(h:(parS l).2=0):errS (parS l).1=0/\ ∀t∈tokL (parS l).1,t∈l\/(t.text=[]/\t.unit=[]):=by
 unfold parS at h ⊢;split at h
 ·cases h
 rename_i h0;rw[Ga h0];split at h
 ·cases h
 rename_i s hs;split at h
 ·cases h
 rename_i hk;rw[Ga hk];have hp:=sM l;rw[hs,Jb]at hp;cases hv:AL l 0 16 with
 |none=>rw[hv]at hp;cases hp
 |some v=>
  rw[hv,Jb]at hp;injection hp with hp;obtain⟨a1,a2,a3,a4⟩:=mD _ _ _ _ _ hv;obtain⟨b1,b2⟩:=XP l hs (fun x hx=>by cases hx);have b3:=xR s.2 s.1 b1;have b4:Wj (s.1,s.2)=l.length:=by rw[show(s.1,s.2)=s from rfl,b2];simp[Wj,tokL]
  rw[b4]at b3;simp only[hp]at b3 ⊢;refine⟨?_,a4⟩;unfold errS;rw[Ga (by omega),Ga (by omega),Ka a1]
def topc:List (zb×List zg)->Int
 |[]=>0
 |(o,_)::_=>zo o.kind
theorem zAd{st:List (zb×List zg)}{t:zb}(ho: ∀x∈st,zo x.1.kind≠0)(h:(topc st != 0&&t.kind==topc st)=false): ¬xm st t=true:=by
 cases st with
 |nil=>exact Bool.false_ne_true
 |cons x st=> obtain⟨o,out⟩:=x;have h0:(zo o.kind != 0)=true:=Bg.2 (ho (o,out) (Fb ..));show¬(t.kind==zo o.kind)=true;have h':(zo o.kind != 0&&t.kind==zo o.kind)=false:=h;rw[h0,Xb]at h';rw[h'];exact Bool.false_ne_true
mutual
/-- The tokens of values of their shape are read as these values. -/
theorem zEA: ∀(v:zg) (cur:List zg) (st:List (zb×List zg)) (rest:List zb),(∀x∈st,zo x.1.kind≠0)->shV v (topc st)=true->Rj v+st.length<=16->Z5 (tokV v++rest) (cur,st)=Z5 rest (cur++[v],st)
 |⟨t,l⟩,cur,st,rest,ho,hs,hd=>by
  rw[shV,je,Je,Je]at hs;obtain⟨⟨h1,h2⟩,h3⟩:=hs;have hn:=zAd ho h2;rw[tokV];rw[Rj]at hd;by_cases h0:zo t.kind=0
  ·have hl:l=[]:=by rw[h0,show((0:Int)==0)=true from rfl,Xb,Nf]at h1;exact Cf.1 (by omega)
   subst hl;rw[Ka h0,Ed,Z5];unfold qo;rw[Ga hn,Ga (fun h=>h h0),Aa]
  ·rw[Ga h0]at hd ⊢;have hz:(zo t.kind != 0)=true:=Bg.2 h0;rw[hz,Xb,Bool.not_eq_false']at h3;have ho': ∀x∈(t,cur)::st,zo x.1.kind≠0:=fun x hx=>by
    rcases ja.1 hx with rfl|hx
    ·exact h0
    ·exact ho x hx
   rw[ma,Ra,Z5];unfold qo;rw[Ga hn,Ka h0,Ga (show¬st.length=16 by omega),Aa,tL l [] ((t,cur)::st) _ ho' h3 (by rw[Ia];omega),Ic,Ed,Z5];unfold qo;rw[Ka (show xm ((t,cur)::st) ⟨zo t.kind,[],0,[],false⟩=true from mf _),Aa];rfl
theorem tL: ∀(v:List zg) (cur:List zg) (st:List (zb×List zg)) (rest:List zb),(∀x∈st,zo x.1.kind≠0)->shL v (topc st)=true->Yg v+st.length<=16->Z5 (tokL v++rest) (cur,st)=Z5 rest (cur++v,st)
 |[],cur,st,rest,_,_,_=>by rw[tokL,Ic,Ab]
 |v::r,cur,st,rest,ho,hs,hd=>by rw[shL,Da]at hs;rw[Yg]at hd;rw[tokL,Ra,zEA v cur st _ ho hs.1 (by omega),tL r _ st _ ho hs.2 (by omega),Ra];rfl
end
theorem dX{v:List zg}(h:errS v=0):Yg v<=16/\(tokL v).length<=1500/\shL v 0=true:=by
 unfold errS at h;split at h
 ·cases h
 split at h
 ·cases h
 split at h
 ·exact⟨by omega,by omega,by assumption⟩
 ·cases h
theorem sZ{v:List zg}(h:errS v=0):parS (tokL v)=(v,0):=by obtain⟨h1,h2,h3⟩:=dX h;have hb:=tL v [] [] [] (fun x hx=>by cases hx) h3 (by simpa using h1);rw[Ab,Ic,Z5]at hb;unfold parS;rw[Ga (by omega),hb];simp only[Lc,Xd];rw[Ga (by omega),shutAll]
def lA:List zb:=[⟨2,[97],0,[],false⟩,⟨1,[98],0,[],false⟩,⟨19,[],0,[],false⟩,⟨1,[99],0,[],false⟩,⟨22,[],0,[],false⟩,⟨1,[100],0,[],false⟩]
def vA:List zg:=[⟨⟨2,[97],0,[],false⟩,[⟨⟨1,[98],0,[],false⟩,[]⟩,⟨⟨19,[],0,[],false⟩,[⟨⟨1,[99],0,[],false⟩,[]⟩,⟨⟨22,[],0,[],false⟩,[]⟩,⟨⟨1,[100],0,[],false⟩,[]⟩]⟩]⟩]
theorem iM{v:List zg}(hv:szL v<=big)(h:errS v=0)(hg:gluS (tokL v)=0)(ht:Yi (tokL v) 1000):xn v=some (if 4000<(wrS (tokL v)).length then([],28)else(wrS (tokL v),0)):=by unfold xn;simp only[ze,iR hv,h,Aa];rw[show((0:Int) != 0)=false from rfl,Ha,eY hv,Aa,zAY hg ht,Aa]
theorem Mr:Q3 ()=some true:=by
 have h1:Ei [97,40,98,91,99,41,100]=(lA,0):=by kernel_rfl
 have h2:parS lA=(vA,0):=by kernel_rfl
 have hs:szL vA<=big:=by decide+kernel
 have h3:xn vA=some ([97,40,98,91,99,41,100,93,41],0):=by rw[iM hs (by decide+kernel) (by decide+kernel) (by unfold Yi;decide+kernel),show wrS (tokL vA)=[97,40,98,91,99,41,100,93,41] by decide+kernel];rfl
 have h4:au vA=some (2,0):=by rw[V5 hs];kernel_rfl
 unfold Q3 IE parseF;simp only[ze,xI,h1,h2,h3,h4,Aa];rfl
theorem rF: ∀{l:List zb} {n:Nat},Yi l n->wtT l<=(n+1)*l.length
 |[],n,_=>by rw[wtT];exact Ac _
 |t::r,n,h=>by have h1:=h t (Fb ..);have h2:=rF (l:=r) (fun u hu=>h u (Cb _ hu));rw[wtT,Ia,Nat.mul_add];omega
theorem zpU(s:Str):yE s=some true:=by
 have hbig:big=4194304:=rfl;unfold yE;by_cases hlong:500<s.length
 ·rw[La (by omega),Ja];simp only[ze,Mr,Aa]
 ·rw[Ib (by omega),Ha];simp only[ze,xI,Aa,parseF];have hcl:=NQ s;have ht4:=nW (Proofs.Cl.cleanS s);have htl:=bN (Proofs.Cl.cleanS s);have hts:Ei s=if 1500<(qi (Proofs.Cl.cleanS s)).length then([],4)else(qi (Proofs.Cl.cleanS s),0):=by unfold Ei;rw[Ga (by omega)]
  have hl0:Yi (Ei s).1 6000/\(Ei s).1.length<=1500:=by
   rw[hts];split
   ·exact⟨fun t ht=>(by cases ht),Ac _⟩
   ·exact⟨fun t ht=>(by have:=ht4 t ht;omega),Nat.le_of_not_lt (by assumption)⟩
  clear hts ht4 htl hcl;obtain⟨l,hl⟩: ∃l,(Ei s).1=l:=⟨_,rfl⟩;obtain⟨e,he⟩: ∃e,(Ei s).2=e:=⟨_,rfl⟩;rw[hl]at hl0;simp only[hl,he];obtain⟨hle,hlen⟩:=hl0;have hsz:=zCH l;have hwt:wtT l<=6001*1500:=Pb (rF hle) (Jh _ hlen);obtain⟨g,hg1,hg2⟩:=XY (x:=l) (fun t ht=>by have:=hle t ht;omega) (by omega);cases hz:(bif e != 0 then true else(parS l).2 != 0)with
  |true=> simp only[Oc,ZF,Aa,Ja,Mr]
  |false=>
   have hz2:(parS l).2=0:=by
    cases h:e != 0 with
    |true=>rw[h]at hz;cases hz
    |false=>rw[h,Ha]at hz;exact Gi fun q=>by rw[Bg.2 q]at hz;cases hz
   simp only[Ec,ZB,hg1,Aa,Ha];cases g with
   |true=>simp only[Oc,ZF,Aa,Ja,Mr]
   |false=>
    obtain⟨h1,_⟩:=hg2 rfl;obtain⟨hv,hm⟩:=rZ hz2;obtain⟨v,hvd⟩: ∃v,(parS l).1=v:=⟨_,rfl⟩;rw[hvd]at hv hm hsz;have hvs:szL v<=big:=by have h3:wtT l<=1001*1500:=Pb (rF h1) (Jh _ hlen);omega
    have htk:Yi (tokL v) 1000:=fun t ht=>by
     rcases hm t ht with q|⟨q1,q2⟩
     ·exact h1 t q
     ·rw[q1,q2];exact Ac _
    simp only[hvd,Ec,ZB,G7 hvs,Aa,zm6 (zC4 htk (show 1000<=big by omega)),Ha];by_cases hgz:gluS (tokL v)=0
    ·have hnt:=iM hvs hv hgz htk;rw[hgz,show((0:Int) != 0)=false from rfl,Ha,hnt,Aa];by_cases hlong:4000<(wrS (tokL v)).length
     ·rw[Ka hlong];simp only[show((28:Int) != 0)=true from rfl,show((28:Int)==28)=true from rfl,Ja,ZB,Mr,Aa]
     ·rw[Ga hlong];simp only[show((0:Int) != 0)=false from rfl,Ha,O9 hgz htk (by omega),Aa,sZ hv,show((0:Int)==0)=true from rfl,Ja,ZB,zAs hvs,Mr]
    ·have:(gluS (tokL v) != 0)=true:=by rw[Bg];exact hgz
     rw[this,Ja];simp only[Mr,Aa]
end Go.Lv.VT
